/- A logic for walks: the frame is a list of slots, the memory a list of blocks of the call's own; worlds are not named. -/
import Derived.WalkKit
import Derived.OwnWalkIn
import Derived.TacticsInMore
import Derived.OrdersIn
import Derived.Deep.MidRow
set_option linter.all false
namespace Go.Sy
open Go Go.RowKit

/-! ### Frames -/
abbrev Fr := List (Nat × Value)
def get : Fr → Nat → Option Value
  | [], _ => none
  | (t, v) :: r, s => bif Nat.beq t s then some v else get r s
def ev (g : Nat → Option Value) : Operand → Option Value
  | .tmp t => g t
  | .const v => some v
  | .global b => some (.pointer (some ⟨b, 0, none⟩))
  | .func f => some (.func (.func f) #[] #[])
def evs (g : Nat → Option Value) : List Operand → Option (List Value)
  | [] => some []
  | x :: l => match ev g x, evs g l with
    | some v, some vs => some (v :: vs)
    | _, _ => none
def Agrees (g : Nat → Option Value) (a : Act) : Prop := ∀ t v, g t = some v → a.tmps[t]? = some v
theorem Agrees.eval {g : Nat → Option Value} {a : Act} (h : Agrees g a) {x : Operand} {v : Value} (he : ev g x = some v) : a.eval x = v := by
  cases x with
  | tmp t =>
    have := h t v he
    simp only [Act.eval, Array.getD_eq_getD_getElem?, this, Option.getD_some]
  | const c => simpa [ev, Act.eval] using he
  | global b => simpa [ev, Act.eval] using he
  | func f => simpa [ev, Act.eval] using he
theorem Agrees.evals {g : Nat → Option Value} {a : Act} (h : Agrees g a) : ∀ {l : List Operand} {vs : List Value}, evs g l = some vs → l.map a.eval = vs
  | [], vs, he => by simpa [evs] using he
  | x :: l, vs, he => by
    simp only [evs] at he
    split at he
    · rename_i v vs' h1 h2
      cases he
      rw [List.map_cons, h.eval h1, h.evals h2]
    · cases he
theorem Agrees.put {fr : Fr} {a : Act} (h : Agrees (get fr) a) {d : Nat} (hd : d < a.tmps.size) (v : Value) : Agrees (get ((d, v) :: fr)) (a.put (some d) v) := by
  intro t u hu
  simp only [get] at hu
  simp only [Act.put]
  cases hb : Nat.beq d t with
  | true =>
    have hdt : d = t := Nat.eq_of_beq_eq_true hb
    rw [hb] at hu; simp at hu
    subst hdt; subst hu; simp [hd]
  | false =>
    have hdt : d ≠ t := Nat.ne_of_beq_eq_false hb
    rw [hb] at hu; simp at hu
    rw [Array.getElem?_setIfInBounds_ne hdt]; exact h t u hu
theorem Agrees.sub {g g' : Nat → Option Value} {a : Act} (h : Agrees g a) (hs : ∀ t v, g' t = some v → g t = some v) : Agrees g' a := fun t v hv => h t v (hs t v hv)
/-- Every slot that the first frame names reads the same in the second. -/
def Sub (fr' fr : Fr) : Prop := ∀ t v, get fr' t = some v → get fr t = some v
theorem Sub.nil {fr : Fr} : Sub [] fr := fun _ _ h => by simp [get] at h
theorem Sub.cons {fr fr' : Fr} {t : Nat} {v v' : Value} (h : get fr t = some v') (e : v' = v) (hs : Sub fr' fr) : Sub ((t, v) :: fr') fr := fun s u hu => by
  subst e
  simp only [get] at hu
  cases hb : Nat.beq t s with
  | true => rw [hb] at hu; simp at hu; subst hu; rw [← Nat.eq_of_beq_eq_true hb]; exact h
  | false => rw [hb] at hu; simp at hu; exact hs s u hu
theorem Sub.refl {fr : Fr} : Sub fr fr := fun _ _ h => h

/-! ### What is held of memory -/
/-- A block with all its cells, not frozen · a slice that owns its row · whatever else lies in a block. -/
inductive Res where
  | blk (b T : Nat) (C : List Value)
  | row (v : Value) (E size n : Nat) (xs : List Value)
  | obj (b : Nat) (o : Obj)
  | abs (O : Nat → Prop) (H : World → Prop)
/-- The blocks that a resource owns. -/
def Res.own : Res → Nat → Prop
  | .blk b _ _ => fun x => b = x
  | .row v _ _ _ _ => fun x => v.ownBlock = some x
  | .obj b _ => fun x => b = x
  | .abs O _ => O
def Res.holds (w : World) : Res → Prop
  | .blk b T C => w.heap[b]? = some (.cells C.toArray T (0, 0))
  | .row v E s n xs => w.ownsRow 0 E s v n xs
  | .obj b o => w.heap[b]? = some o
  | .abs O H => (∀ b, O b → b < w.heap.size) ∧ ∀ w' : World, (∀ b, O b → w'.heap[b]? = w.heap[b]?) → H w'
theorem Res.own_lt {w : World} {r : Res} (h : r.holds w) {b : Nat} (hb : r.own b) : b < w.heap.size := by
  match r, h, hb with
  | .blk b' T C, h, hb => have hb : b' = b := hb; subst hb; exact (Array.getElem?_eq_some_iff.1 h).1
  | .obj b' o, h, hb => have hb : b' = b := hb; subst hb; exact (Array.getElem?_eq_some_iff.1 h).1
  | .row v E s n xs, h, hb => exact (World.ownsRow.lt h b hb).2
  | .abs O H, h, hb => exact h.1 b hb
theorem lt_of_same {w w' : World} {b : Nat} (h : b < w.heap.size) (e : w'.heap[b]? = w.heap[b]?) : b < w'.heap.size := by
  rw [Array.getElem?_eq_getElem h] at e
  exact (Array.getElem?_eq_some_iff.1 e).1
theorem Res.holds_congr {w w' : World} {r : Res} (h : r.holds w) (hb : ∀ b, r.own b → w'.heap[b]? = w.heap[b]?) : r.holds w' := by
  match r, h, hb with
  | .blk b T C, h, hb => exact (hb b rfl).trans h
  | .obj b o, h, hb => exact (hb b rfl).trans h
  | .abs O H, h, hb => exact ⟨fun b ho => lt_of_same (h.1 b ho) (hb b ho), fun w'' h'' => h.2 w'' fun b ho => (h'' b ho).trans (hb b ho)⟩
  | .row v E s n xs, h, hb =>
    obtain ⟨h1, h2 | ⟨g, cap, cur, rfl, h3, h4, h5⟩⟩ := h
    · exact ⟨h1, .inl h2⟩
    · exact ⟨h1, .inr ⟨g, cap, cur, rfl, h3, (hb g rfl).trans h4, h5⟩⟩
def Apart (r r' : Res) : Prop := ∀ b, r.own b → ¬ r'.own b
theorem Apart.symm {r r' : Res} (h : Apart r r') : Apart r' r := fun b hb hb' => h b hb' hb

/-- All but the blocks of M is as it was. -/
structure Keep (M : Nat → Prop) (w0 w : World) : Prop where
  os : w.os = w0.os
  tape : w.tape = w0.tape
  output : w.output = w0.output
  size : w0.heap.size ≤ w.heap.size
  block : ∀ k, k < w0.heap.size → ¬ M k → w.heap[k]? = w0.heap[k]?
abbrev No : Nat → Prop := fun _ => False
theorem Keep.refl (M : Nat → Prop) (w : World) : Keep M w w := ⟨rfl, rfl, rfl, Nat.le_refl _, fun _ _ _ => rfl⟩
theorem Keep.trans {M M' : Nat → Prop} {a b c : World} (h : Keep M a b) (k : Keep M' b c) (hm : ∀ x, M' x → a.heap.size ≤ x ∨ M x) : Keep M a c :=
  ⟨k.os.trans h.os, k.tape.trans h.tape, k.output.trans h.output, Nat.le_trans h.size k.size, fun x hx hn =>
    (k.block x (Nat.lt_of_lt_of_le hx h.size) (fun hmx => (hm x hmx).elim (fun h => absurd hx (Nat.not_lt.2 h)) hn)).trans (h.block x hx hn)⟩
theorem Keep.mono {M M' : Nat → Prop} {a b : World} (h : Keep M a b) (hm : ∀ x, M x → M' x) : Keep M' a b :=
  ⟨h.os, h.tape, h.output, h.size, fun x hx hn => h.block x hx (fun h => hn (hm x h))⟩
theorem Keep.below {w w' : World} (h : Keep No w w') : Below w.heap.size w w' := ⟨h.os, h.tape, h.output, h.size, fun k hk => h.block k hk (fun h => h)⟩
theorem Keep.of_below {M : Nat → Prop} {w w' : World} (h : Below w.heap.size w w') : Keep M w w' := ⟨h.os, h.tape, h.output, h.size, fun k hk _ => h.block k hk⟩
theorem Keep.alloc (M : Nat → Prop) (w : World) (o : Obj) : Keep M w (w.alloc o) :=
  ⟨rfl, rfl, rfl, by simp, fun k hk _ => Below.heap_alloc w o k hk⟩
theorem Keep.setCell (w : World) (a : Addr) (v : Value) : Keep (· = a.block) w (w.setCell a v) :=
  ⟨rfl, rfl, rfl, by simp, fun k _ hn => Below.heap_setCell w a v k hn⟩
theorem Keep.grown {w w' : World} {row : Option Nat} (h : w.grownBy w' row) : Keep (fun k => row = some k) w w' :=
  ⟨h.os, h.tape, h.output, h.size, fun k hk hn => h.block k hk (fun e => hn e.symm)⟩
theorem Keep.cell {M : Nat → Prop} {w w' : World} (h : Keep M w w') {a : Addr} {v : Value} (hv : w.cell? a = some v) (hn : ¬ M a.block) : w'.cell? a = some v := by
  have hl := World.block_lt_of_cell? w a hv
  rw [World.cell?_of_block (w := w) (h.block _ hl hn)]; exact hv

structure Holds (B : Nat) (M : Nat → Prop) (L : List Res) (w : World) : Prop where
  all : ∀ r ∈ L, r.holds w
  apart : L.Pairwise Apart
  mine : ∀ r ∈ L, ∀ b, r.own b → B ≤ b ∨ M b
theorem Holds.nil {B : Nat} {M : Nat → Prop} {w : World} : Holds B M [] w := ⟨fun _ h => (List.not_mem_nil h).elim, List.Pairwise.nil, fun _ h => (List.not_mem_nil h).elim⟩
theorem Holds.tail {B : Nat} {M : Nat → Prop} {r : Res} {L : List Res} {w : World} (h : Holds B M (r :: L) w) : Holds B M L w :=
  ⟨fun x hx => h.all x (List.mem_cons_of_mem _ hx), (List.pairwise_cons.1 h.apart).2, fun x hx => h.mine x (List.mem_cons_of_mem _ hx)⟩
theorem Holds.cons {B : Nat} {M : Nat → Prop} {r : Res} {L : List Res} {w : World} (h : Holds B M L w) (hr : r.holds w) (ha : ∀ x ∈ L, Apart r x) (hm : ∀ b, r.own b → B ≤ b ∨ M b) : Holds B M (r :: L) w :=
  ⟨fun x hx => by
    rcases List.mem_cons.1 hx with rfl | hx
    · exact hr
    · exact h.all x hx, List.pairwise_cons.2 ⟨ha, h.apart⟩, fun x hx => by
    rcases List.mem_cons.1 hx with rfl | hx
    · exact hm
    · exact h.mine x hx⟩
theorem Holds.keep {B : Nat} {M M' : Nat → Prop} {L : List Res} {w w' : World} (h : Holds B M L w) (hk : Keep M' w w') (hn : ∀ r ∈ L, ∀ b, r.own b → ¬ M' b) : Holds B M L w' :=
  ⟨fun r hr => Res.holds_congr (h.all r hr) (fun b hb => hk.block b (Res.own_lt (h.all r hr) hb) (hn r hr b hb)), h.apart, h.mine⟩
theorem Holds.perm {B : Nat} {M : Nat → Prop} {L L' : List Res} {w : World} (h : Holds B M L w) (hp : L.Perm L') : Holds B M L' w :=
  ⟨fun r hr => h.all r (hp.mem_iff.2 hr), (hp.pairwise_iff (fun h => Apart.symm h)).1 h.apart, fun r hr => h.mine r (hp.mem_iff.2 hr)⟩
theorem Holds.sublist {B : Nat} {M : Nat → Prop} {L L' : List Res} {w : World} (h : Holds B M L w) (hp : L'.Sublist L) : Holds B M L' w :=
  ⟨fun r hr => h.all r (hp.subset hr), h.apart.sublist hp, fun r hr => h.mine r (hp.subset hr)⟩
/-- A new block. -/
theorem Holds.new {B : Nat} {M : Nat → Prop} {L : List Res} {w : World} (h : Holds B M L w) (hB : B ≤ w.heap.size) (T : Nat) (C : List Value) :
    Holds B M (.blk w.heap.size T C :: L) (w.alloc (.cells C.toArray T)) := by
  refine (h.keep (Keep.alloc No w _) (fun _ _ _ _ h => h)).cons ?_ ?_ ?_
  · show (w.heap.push _)[w.heap.size]? = _; simp
  · intro x hx b hb hb'
    cases hb
    have := Res.own_lt (h.all x hx) hb'; omega
  · intro b hb; cases hb; exact .inl hB

/-! ### Finding a resource -/
def Has (L : List Res) (r : Res) : Prop := r ∈ L
theorem Has.here {r : Res} {L : List Res} : Has (r :: L) r := List.mem_cons_self
theorem Has.there {r x : Res} {L : List Res} (h : Has L r) : Has (x :: L) r := List.mem_cons_of_mem _ h
theorem Has.mem {L : List Res} {r : Res} (h : Has L r) : r ∈ L := h
theorem Has.append {L X : List Res} {r : Res} (h : Has L r) : Has (L ++ X) r := List.mem_append_left _ h
def Upd (L : List Res) (r r' : Res) (L' : List Res) : Prop := ∃ A B, L = A ++ r :: B ∧ L' = A ++ r' :: B
theorem Upd.here {r r' : Res} {L : List Res} : Upd (r :: L) r r' (r' :: L) := ⟨[], L, rfl, rfl⟩
theorem Upd.there {r r' x : Res} {L L' : List Res} (h : Upd L r r' L') : Upd (x :: L) r r' (x :: L') :=
  let ⟨A, B, e, e'⟩ := h; ⟨x :: A, B, by rw [e]; rfl, by rw [e']; rfl⟩
theorem Upd.append {L L' X : List Res} {r r' : Res} (h : Upd L r r' L') : Upd (L ++ X) r r' (L' ++ X) :=
  let ⟨A, B, e, e'⟩ := h; ⟨A, B ++ X, by rw [e]; simp, by rw [e']; simp⟩
def Rem (L : List Res) (r : Res) (L' : List Res) : Prop := ∃ A B, L = A ++ r :: B ∧ L' = A ++ B
theorem Rem.here {r : Res} {L : List Res} : Rem (r :: L) r L := ⟨[], L, rfl, rfl⟩
theorem Rem.there {r x : Res} {L L' : List Res} (h : Rem L r L') : Rem (x :: L) r (x :: L') :=
  let ⟨A, B, e, e'⟩ := h; ⟨x :: A, B, by rw [e]; rfl, by rw [e']; rfl⟩
theorem Rem.append {L L' X : List Res} {r : Res} (h : Rem L r L') : Rem (L ++ X) r (L' ++ X) :=
  let ⟨A, B, e, e'⟩ := h; ⟨A, B ++ X, by rw [e]; simp, by rw [e']; simp⟩
theorem Rem.perm {L L' : List Res} {r : Res} (h : Rem L r L') : L.Perm (r :: L') := by
  obtain ⟨A, B, e, e'⟩ := h; rw [e, e']; exact List.perm_middle
theorem Upd.rem {L L' : List Res} {r r' : Res} (h : Upd L r r' L') : ∃ L1, L.Perm (r :: L1) ∧ L'.Perm (r' :: L1) := by
  obtain ⟨A, B, e, e'⟩ := h; exact ⟨A ++ B, by rw [e]; exact List.perm_middle, by rw [e']; exact List.perm_middle⟩
def SubR (R L : List Res) : Prop := ∃ X, L.Perm (R ++ X)
theorem SubR.nil {L : List Res} : SubR [] L := ⟨L, List.Perm.refl _⟩
theorem SubR.pick {r r' : Res} {R L L' : List Res} (h : Rem L r' L') (e : r' = r) (hs : SubR R L') : SubR (r :: R) L := by
  obtain ⟨X, hX⟩ := hs
  subst e
  exact ⟨X, h.perm.trans (List.Perm.cons _ hX)⟩
theorem SubR.blk {b T : Nat} {C C' : List Value} {R L L' : List Res} (h : Rem L (.blk b T C') L') (e : C' = C) (hs : SubR R L') : SubR (.blk b T C :: R) L := by
  subst e; exact SubR.pick h rfl hs
theorem SubR.refl {L : List Res} : SubR L L := ⟨[], by simp⟩
theorem SubR.perm {R L : List Res} (h : SubR R L) : ∃ X, L.Perm (R ++ X) := h
theorem Holds.has {B : Nat} {M : Nat → Prop} {L : List Res} {w : World} (h : Holds B M L w) {r : Res} (hr : Has L r) : r.holds w := h.all r hr.mem
theorem Holds.subR {B : Nat} {M : Nat → Prop} {L R : List Res} {w : World} (h : Holds B M L w) (hs : SubR R L) : Holds B M R w := by
  obtain ⟨X, hX⟩ := hs.perm
  exact (h.perm hX).sublist (List.sublist_append_left R X)
/-- One resource has turned into another of the same block; the others are as they were. -/
theorem Holds.upd {B : Nat} {M : Nat → Prop} {L L' : List Res} {r r' : Res} {w w' : World} (h : Holds B M L w) (hu : Upd L r r' L') (ho : ∀ b, r'.own b → r.own b ∨ (w.heap.size ≤ b ∧ B ≤ b)) (hr : r'.holds w') (hk : Keep (fun k => r.own k) w w') : Holds B M L' w' := by
  obtain ⟨L1, h1, h2⟩ := hu.rem
  have h' := h.perm h1
  have ht := h'.tail
  refine Holds.perm (L := r' :: L1) ?_ h2.symm
  refine (ht.keep hk (fun x hx b hb hb' => ?_)).cons hr (fun x hx b hb => ?_) (fun b hb => ?_)
  · exact (List.pairwise_cons.1 h'.apart).1 x hx b hb' hb
  · rcases ho b hb with hb | ⟨hb, _⟩
    · exact (List.pairwise_cons.1 h'.apart).1 x hx b hb
    · intro hb'; have := Res.own_lt (ht.all x hx) hb'; omega
  · rcases ho b hb with hb | ⟨_, hb⟩
    · exact h'.mine r List.mem_cons_self b hb
    · exact .inl hb

/-! ### The state -/
structure St (N : Nat) (w0 : World) (M : Nat → Prop) (ds : List Deferred) (g : Nat → Option Value) (L : List Res) (a : Act) (w : World) : Prop where
  size : a.tmps.size = N
  agr : Agrees g a
  keep : Keep M w0 w
  hold : Holds w0.heap.size M L w
/-- The fence of a body, or of a round's body. -/
def FW (ro : Option Nat) : Fence := { Fence.wide with round := ro }
theorem FW_none : FW none = Fence.wide := rfl
theorem FW_some (l : Nat) : FW (some l) = Fence.wide.inRound l := rfl

section
variable {P : Program} {ro : Option Nat} {N : Nat} {w0 : World} {M : Nat → Prop} {ds : List Deferred}

theorem St.weaken {g g' : Nat → Option Value} {L L' : List Res} {a : Act} {w : World} (h : St N w0 M ds g L a w) (hg : ∀ t v, g' t = some v → g t = some v) (hL : SubR L' L) : St N w0 M ds g' L' a w :=
  ⟨h.size, h.agr.sub hg, h.keep, h.hold.subR hL⟩
theorem St.perm {g : Nat → Option Value} {L L' : List Res} {a : Act} {w : World} (h : St N w0 M ds g L a w) (hL : L.Perm L') : St N w0 M ds g L' a w :=
  ⟨h.size, h.agr, h.keep, h.hold.perm hL⟩
/-- What a range over a function has left among the deferred calls. -/
def col (D : Nat) : Deferred := { target := .collected D, args := #[] }
def dob (D : Nat) : Res := .obj D (.deferred (some []))
/-- The state, marks of loops beside it. -/
def StD (N : Nat) (w0 : World) (M : Nat → Prop) (ds : List Deferred) (g : Nat → Option Value) (L : List Res) (a : Act) (w : World) : Prop :=
  ∃ Ds : List Nat, a.defers = Ds.map col ++ ds ∧ St N w0 M ds g (L ++ Ds.map dob) a w
theorem SubR.append {R L X : List Res} (h : SubR R L) : SubR (R ++ X) (L ++ X) := by
  obtain ⟨Y, hY⟩ := h
  refine ⟨Y, (hY.append_right X).trans ?_⟩
  rw [List.append_assoc, List.append_assoc]; exact List.Perm.append_left R List.perm_append_comm
theorem StD.weaken {g g' : Nat → Option Value} {L L' : List Res} {a : Act} {w : World} (h : StD N w0 M ds g L a w) (hg : ∀ t v, g' t = some v → g t = some v) (hL : SubR L' L) : StD N w0 M ds g' L' a w :=
  let ⟨Ds, hd, hs⟩ := h; ⟨Ds, hd, hs.weaken hg hL.append⟩
theorem StD.agr {g : Nat → Option Value} {L : List Res} {a : Act} {w : World} (h : StD N w0 M ds g L a w) : Agrees g a := let ⟨_, _, hs⟩ := h; hs.agr

def SyX (N : Nat) (w0 : World) (M : Nat → Prop) (ds : List Deferred) (K : Act → World → Prop) (fr : Fr) (L : List Res) : Prop := ∀ a w, StD N w0 M ds (get fr) L a w → K a w
def Sy (P : Program) (ro : Option Nat) (N : Nat) (w0 : World) (M : Nat → Prop) (ds : List Deferred) (c : Code) (Q : Exit → Act → World → Prop) (fr : Fr) (L : List Res) : Prop :=
  ∀ a w, StD N w0 M ds (get fr) L a w → c.wpIn (FW ro) 0 P Q a w
def SyL (P : Program) (ro : Option Nat) (N : Nat) (w0 : World) (M : Nat → Prop) (ds : List Deferred) (ops : Array Oper) (Q : Exit → Act → World → Prop) (rest : List Oper) (fr : Fr) (L : List Res) : Prop :=
  ∀ a w, StD N w0 M ds (get fr) L a w → wpListIn (FW ro) 0 P ops Q rest a w

/-! ### Code -/
variable {Q : Exit → Act → World → Prop} {fr : Fr} {L : List Res}
theorem sy_seq {x y : Code} (h : ∀ K : Act → World → Prop, (∀ fr L, Sy P ro N w0 M ds y Q fr L → SyX N w0 M ds K fr L) → Sy P ro N w0 M ds x (Exit.then K Q) fr L) : Sy P ro N w0 M ds (.seq x y) Q fr L :=
  fun a w hs => wpIn_seq (h (fun a w => y.wpIn (FW ro) 0 P Q a w) (fun _ _ h => h) a w hs)
theorem sy_cond {c : Operand} {x y : Code} {t : Bool} (hc : ev (get fr) c = some (.bool t)) (ht : t = true → Sy P ro N w0 M ds x Q fr L) (hf : t = false → Sy P ro N w0 M ds y Q fr L) : Sy P ro N w0 M ds (.cond c x y) Q fr L :=
  fun a w hs => wpIn_cond_split (hs.agr.eval hc) (fun h => ht h a w hs) (fun h => hf h a w hs)
theorem sy_block {id : Nat} {c : Code} (h : Sy P ro N w0 M ds c (Exit.inBlock id Q) fr L) : Sy P ro N w0 M ds (.block id c) Q fr L := fun a w hs => wpIn_block (h a w hs)
theorem sy_skip (h : SyX N w0 M ds (Q .normal) fr L) : Sy P ro N w0 M ds .skip Q fr L := fun a w hs => wpIn_skip (h a w hs)
theorem sy_label {l : Nat} (h : SyX N w0 M ds (Q .normal) fr L) : Sy P ro N w0 M ds (.label l) Q fr L := fun a w hs => wpIn_label (h a w hs)
theorem sy_exit {id : Nat} (h : SyX N w0 M ds (Q (.exit id)) fr L) : Sy P ro N w0 M ds (.exit id) Q fr L := fun a w hs => wpIn_exit (h a w hs)
theorem sy_goto {l : Nat} (h : SyX N w0 M ds (Q (.goto l)) fr L) : Sy P ro N w0 M ds (.goto l) Q fr L := fun a w hs => wpIn_goto (h a w hs)
theorem sy_ret (h : SyX N w0 M ds (Q .ret) fr L) : Sy P ro N w0 M ds .ret Q fr L := fun a w hs => wpIn_ret (h a w hs)
theorem sy_region {id : Nat} {l : List Oper} (h : SyL P ro N w0 M ds l.toArray Q l fr L) : Sy P ro N w0 M ds (.region id l.toArray false) Q fr L :=
  fun a w hs => wpIn_region_lit (h a w hs)
theorem syl_nil {ops : Array Oper} (h : SyX N w0 M ds (Q .normal) fr L) : SyL P ro N w0 M ds ops Q [] fr L := fun a w hs => h a w hs
theorem syx_then {K : Act → World → Prop} (h : SyX N w0 M ds K fr L) : SyX N w0 M ds (Exit.then K Q .normal) fr L := h
theorem syx_then_exit {K : Act → World → Prop} {id : Nat} (h : SyX N w0 M ds (Q (.exit id)) fr L) : SyX N w0 M ds (Exit.then K Q (.exit id)) fr L := h
theorem syx_then_goto {K : Act → World → Prop} {id : Nat} (h : SyX N w0 M ds (Q (.goto id)) fr L) : SyX N w0 M ds (Exit.then K Q (.goto id)) fr L := h
theorem syx_then_ret {K : Act → World → Prop} (h : SyX N w0 M ds (Q .ret) fr L) : SyX N w0 M ds (Exit.then K Q .ret) fr L := h
theorem syx_in {id : Nat} (h : SyX N w0 M ds (Q .normal) fr L) : SyX N w0 M ds (Exit.inBlock id Q .normal) fr L := h
theorem syx_in_ret {id : Nat} (h : SyX N w0 M ds (Q .ret) fr L) : SyX N w0 M ds (Exit.inBlock id Q .ret) fr L := h
theorem syx_in_goto {id l : Nat} (h : SyX N w0 M ds (Q (.goto l)) fr L) : SyX N w0 M ds (Exit.inBlock id Q (.goto l)) fr L := h
theorem syx_in_here {id : Nat} (h : SyX N w0 M ds (Q .normal) fr L) : SyX N w0 M ds (Exit.inBlock id Q (.exit id)) fr L := fun a w hs => by
  simp only [Exit.inBlock, if_true]; exact h a w hs
theorem syx_in_past {id id' : Nat} (hne : Nat.beq id' id = false) (h : SyX N w0 M ds (Q (.exit id')) fr L) : SyX N w0 M ds (Exit.inBlock id Q (.exit id')) fr L := fun a w hs => by
  simp only [Exit.inBlock, if_neg (Nat.ne_of_beq_eq_false hne)]; exact h a w hs
/-- The code that comes next, as what follows. -/
def CK (P : Program) (ro : Option Nat) (y : Code) (Q : Exit → Act → World → Prop) (a : Act) (w : World) : Prop := y.wpIn (FW ro) 0 P Q a w
theorem sy_seqC {x y : Code} (h : Sy P ro N w0 M ds x (Exit.then (CK P ro y Q) Q) fr L) : Sy P ro N w0 M ds (.seq x y) Q fr L := fun a w hs => wpIn_seq (h a w hs)
theorem syx_go {y : Code} (h : Sy P ro N w0 M ds y Q fr L) : SyX N w0 M ds (CK P ro y Q) fr L := h
theorem sy_if_t {c : Operand} {x y : Code} (hc : ev (get fr) c = some (.bool true)) (h : Sy P ro N w0 M ds x Q fr L) : Sy P ro N w0 M ds (.cond c x y) Q fr L := sy_cond hc (fun _ => h) (fun h => by cases h)
theorem sy_if_f {c : Operand} {x y : Code} (hc : ev (get fr) c = some (.bool false)) (h : Sy P ro N w0 M ds y Q fr L) : Sy P ro N w0 M ds (.cond c x y) Q fr L := sy_cond hc (fun h => by cases h) (fun _ => h)
/-- A cut between two pieces of code. -/
def CutK (N : Nat) (w0 : World) (M : Nat → Prop) (ds : List Deferred) {γ : Type} (f : γ → Fr) (R : γ → List Res) (I : γ → Prop) (a : Act) (w : World) : Prop := ∃ g, I g ∧ StD N w0 M ds (get (f g)) (R g) a w
theorem sy_seq_cut {γ : Type} (f : γ → Fr) (R : γ → List Res) (I : γ → Prop) {x y : Code} (h : Sy P ro N w0 M ds x (Exit.then (CutK N w0 M ds f R I) Q) fr L) (h2 : ∀ g, I g → Sy P ro N w0 M ds y Q (f g) (R g)) : Sy P ro N w0 M ds (.seq x y) Q fr L :=
  fun a w hs => wpIn_seq (wpIn_mono (h a w hs) (fun e a' w' hq => by
    cases e with
    | normal => obtain ⟨g, hI, hst⟩ := hq; exact h2 g hI a' w' hst
    | exit id => exact hq
    | goto l => exact hq
    | ret => exact hq
    | panic c => exact hq
    | outgrown => exact hq))
theorem syx_cut {γ : Type} {f : γ → Fr} {R : γ → List Res} {I : γ → Prop} (g : γ) (hI : I g) (hf : Sub (f g) fr) (hR : SubR (R g) L) : SyX N w0 M ds (CutK N w0 M ds f R I) fr L := fun _ _ hs => ⟨g, hI, hs.weaken hf hR⟩
/-- Forgetting slots and blocks. -/
theorem Sy.weaken {c : Code} {fr' : Fr} {L' : List Res} (h : Sy P ro N w0 M ds c Q fr' L') (hf : Sub fr' fr) (hL : SubR L' L) : Sy P ro N w0 M ds c Q fr L := fun a w hs => h a w (hs.weaken hf hL)
theorem SyX.weaken {K : Act → World → Prop} {fr' : Fr} {L' : List Res} (h : SyX N w0 M ds K fr' L') (hf : Sub fr' fr) (hL : SubR L' L) : SyX N w0 M ds K fr L := fun a w hs => h a w (hs.weaken hf hL)
/-- A loop. -/
def LoopK (N : Nat) (w0 : World) (M : Nat → Prop) (ds : List Deferred) {γ : Type} (f : γ → Fr) (R : γ → List Res) (I : γ → Prop) (μ : γ → Nat) (m : Nat) (a : Act) (w : World) : Prop :=
  ∃ g, I g ∧ μ g < m ∧ StD N w0 M ds (get (f g)) (R g) a w
theorem sy_loop {γ : Type} (f : γ → Fr) (R : γ → List Res) (I : γ → Prop) (μ : γ → Nat) {c : Code} (g0 : γ) (h0 : I g0) (hf : Sub (f g0) fr) (hR : SubR (R g0) L)
    (hb : ∀ g, I g → Sy P ro N w0 M ds c (Exit.then (LoopK N w0 M ds f R I μ (μ g)) Q) (f g) (R g)) : Sy P ro N w0 M ds (.loop c) Q fr L := by
  intro a w hs
  refine wpIn_loop (fun a w => ∃ g, I g ∧ StD N w0 M ds (get (f g)) (R g) a w) (fun a w =>
    Classical.epsilon (fun m => (∃ g, I g ∧ StD N w0 M ds (get (f g)) (R g) a w ∧ μ g = m) ∧ ∀ g, I g → StD N w0 M ds (get (f g)) (R g) a w → m ≤ μ g)) ⟨g0, h0, hs.weaken hf hR⟩ ?_
  intro a w hI
  have least : ∀ a w, (∃ g, I g ∧ StD N w0 M ds (get (f g)) (R g) a w) → ∃ m, (∃ g, I g ∧ StD N w0 M ds (get (f g)) (R g) a w ∧ μ g = m) ∧ ∀ g, I g → StD N w0 M ds (get (f g)) (R g) a w → m ≤ μ g := by
    intro a w ⟨g, hg, hst⟩
    generalize hm : μ g = m
    induction m using Nat.strongRecOn generalizing g with
    | _ m ih =>
      by_cases hl : ∃ g', I g' ∧ StD N w0 M ds (get (f g')) (R g') a w ∧ μ g' < m
      · obtain ⟨g', h1, h2, h3⟩ := hl
        exact ih (μ g') h3 g' h1 h2 rfl
      · exact ⟨m, ⟨g, hg, hst, hm⟩, fun g' h1 h2 => Nat.le_of_not_lt fun h => hl ⟨g', h1, h2, h⟩⟩
  have mu : ∀ a w, (hI : ∃ g, I g ∧ StD N w0 M ds (get (f g)) (R g) a w) → ∀ m, ((∃ g, I g ∧ StD N w0 M ds (get (f g)) (R g) a w ∧ μ g = m) ∧ ∀ g, I g → StD N w0 M ds (get (f g)) (R g) a w → m ≤ μ g) →
      Classical.epsilon (fun m => (∃ g, I g ∧ StD N w0 M ds (get (f g)) (R g) a w ∧ μ g = m) ∧ ∀ g, I g → StD N w0 M ds (get (f g)) (R g) a w → m ≤ μ g) = m := by
    intro a w hI m hm
    have hs := Classical.epsilon_spec (least a w hI)
    obtain ⟨⟨g1, a1, b1, c1⟩, d1⟩ := hs
    obtain ⟨⟨g2, a2, b2, c2⟩, d2⟩ := hm
    have h1 := d1 g2 a2 b2
    have h2 := d2 g1 a1 b1
    omega
  obtain ⟨m, ⟨g, hg, hst, rfl⟩, hmin⟩ := least a w hI
  refine wpIn_mono (hb g hg a w hst) ?_
  intro e a' w' hq
  cases e with
  | normal =>
    obtain ⟨g', h1, h2, h3⟩ := hq
    have hI' : ∃ g, I g ∧ StD N w0 M ds (get (f g)) (R g) a' w' := ⟨g', h1, h3⟩
    refine ⟨hI', ?_⟩
    obtain ⟨m', hm'⟩ := least a' w' hI'
    rw [mu a' w' hI' m' hm', mu a w hI (μ g) ⟨⟨g, hg, hst, rfl⟩, hmin⟩]
    exact Nat.lt_of_le_of_lt (hm'.2 g' h1 h3) h2
  | exit id => exact hq
  | goto l => exact hq
  | ret => exact hq
  | panic c => exact hq
  | outgrown => exact hq
theorem syx_back {γ : Type} {f : γ → Fr} {R : γ → List Res} {I : γ → Prop} {μ : γ → Nat} {m : Nat} (g : γ) (hI : I g) (hm : μ g < m) (hf : Sub (f g) fr) (hR : SubR (R g) L) : SyX N w0 M ds (LoopK N w0 M ds f R I μ m) fr L :=
  fun _ _ hs => ⟨g, hI, hm, hs.weaken hf hR⟩

/-! ### Operations -/
def OpT (P : Program) (ro : Option Nat) (N : Nat) (w0 : World) (M : Nat → Prop) (ds : List Deferred) (o : Oper) (g : Nat → Option Value) (L : List Res) (post : Value → List Res → Prop) : Prop :=
  ∀ a w X (next : Act → World → Prop) (Q : Exit → Act → World → Prop), St N w0 M ds g (L ++ X) a w →
    (∀ v w' L', post v L' → Keep M w0 w' → Holds w0.heap.size M (L' ++ X) w' → next (a.put o.dst v) w') → o.wpIn (FW ro) 0 P a w next Q
/-- The value is known, memory is as it was. -/
def Det (v : Value) (L : List Res) : Value → List Res → Prop := fun v' L' => v' = v ∧ L' = L
theorem St.put {w w' : World} {a : Act} {L' : List Res} {d : Nat} (h : St N w0 M ds (get fr) L a w) (hd : d < N) (v : Value) (hk : Keep M w0 w') (hh : Holds w0.heap.size M L' w') : St N w0 M ds (get ((d, v) :: fr)) L' (a.put (some d) v) w' :=
  ⟨by simp only [Act.put, Array.size_setIfInBounds]; exact h.size, h.agr.put (by rw [h.size]; exact hd) v, hk, hh⟩
theorem St.put_none {w w' : World} {a : Act} {L' : List Res} {v : Value} (h : St N w0 M ds (get fr) L a w) (hk : Keep M w0 w') (hh : Holds w0.heap.size M L' w') : St N w0 M ds (get fr) L' (a.put none v) w' :=
  ⟨h.size, h.agr, hk, hh⟩
/-- Does the guard let the operation run? -/
def wants (ops : Array Oper) (o : Oper) (g : Nat → Option Value) : Option Bool :=
  match o.guard with
  | none => some true
  | some (j, want) => match (ops[j]?).bind (·.dst) with
    | none => some false
    | some d => match g d with
      | some (.bool b) => some (b == want)
      | some _ => some false
      | none => none
theorem wants_spec {ops : Array Oper} {o : Oper} {g : Nat → Option Value} {a : Act} (h : Agrees g a) {b : Bool} (hw : wants ops o g = some b) : Region.wanted o (yielded ops a.tmps) = b := by
  unfold wants at hw
  unfold Region.wanted
  cases hg : o.guard with
  | none => rw [hg] at hw; simpa using hw
  | some p =>
    obtain ⟨j, want⟩ := p
    rw [hg] at hw
    simp only at hw ⊢
    unfold yielded
    cases hd : (ops[j]?).bind (·.dst) with
    | none => rw [hd] at hw; simp only [Option.some.injEq] at hw; subst hw; simp
    | some d =>
      rw [hd] at hw
      simp only at hw
      cases hv : g d with
      | none => rw [hv] at hw; cases hw
      | some v =>
        rw [hv] at hw
        simp only [Option.bind_some, h d v hv]
        cases v <;> simp_all
theorem wpListIn_yes {ops : Array Oper} {rest : List Oper} {o : Oper} {a : Act} {w : World} (hg : Region.wanted o (yielded ops a.tmps) = true) (h : o.wpIn (FW ro) 0 P a w (wpListIn (FW ro) 0 P ops Q rest) Q) : wpListIn (FW ro) 0 P ops Q (o :: rest) a w := by
  unfold wpListIn; rw [if_pos hg]; exact h
theorem syl {ops : Array Oper} {rest : List Oper} {o : Oper} {post : Value → List Res → Prop} {d : Nat} (h : OpT P ro N w0 M ds o (get fr) L post) (hw : wants ops o (get fr) = some true) (hd : o.dst = some d) (hN : Nat.blt d N = true)
    (hr : ∀ v L', post v L' → SyL P ro N w0 M ds ops Q rest ((d, v) :: fr) L') : SyL P ro N w0 M ds ops Q (o :: rest) fr L := by
  rintro a w ⟨Ds, hds, hs⟩
  refine wpListIn_yes (wants_spec hs.agr hw) (h a w _ _ _ hs fun v w' L' hp hk hh => ?_)
  rw [hd]
  exact hr v L' hp _ _ ⟨Ds, hds, hs.put (Nat.le_of_ble_eq_true hN) v hk hh⟩
theorem syl_n {ops : Array Oper} {rest : List Oper} {o : Oper} {post : Value → List Res → Prop} (h : OpT P ro N w0 M ds o (get fr) L post) (hw : wants ops o (get fr) = some true) (hd : o.dst = none)
    (hr : ∀ v L', post v L' → SyL P ro N w0 M ds ops Q rest fr L') : SyL P ro N w0 M ds ops Q (o :: rest) fr L := by
  rintro a w ⟨Ds, hds, hs⟩
  refine wpListIn_yes (wants_spec hs.agr hw) (h a w _ _ _ hs fun v w' L' hp hk hh => ?_)
  rw [hd]
  exact hr v L' hp _ _ ⟨Ds, hds, hs.put_none hk hh⟩
theorem syl_v {ops : Array Oper} {rest : List Oper} {o : Oper} {d : Nat} {v : Value} {L' : List Res} (h : OpT P ro N w0 M ds o (get fr) L (Det v L')) (hw : wants ops o (get fr) = some true) (hd : o.dst = some d) (hN : Nat.blt d N = true)
    (hr : SyL P ro N w0 M ds ops Q rest ((d, v) :: fr) L') : SyL P ro N w0 M ds ops Q (o :: rest) fr L :=
  syl h hw hd hN fun _ _ ⟨e1, e2⟩ => by subst e1; subst e2; exact hr
theorem syl_vn {ops : Array Oper} {rest : List Oper} {o : Oper} {v : Value} {L' : List Res} (h : OpT P ro N w0 M ds o (get fr) L (Det v L')) (hw : wants ops o (get fr) = some true) (hd : o.dst = none)
    (hr : SyL P ro N w0 M ds ops Q rest fr L') : SyL P ro N w0 M ds ops Q (o :: rest) fr L :=
  syl_n h hw hd fun _ _ ⟨e1, e2⟩ => by subst e1; subst e2; exact hr
/-- The same, with what is decided by computing left out. -/
theorem yv {ops : Array Oper} {rest : List Oper} {o : Oper} {d : Nat} {v : Value} {L' : List Res} (h : OpT P ro N w0 M ds o (get fr) L (Det v L')) (hw : wants ops o (get fr) = some true := by exact rfl) (hd : o.dst = some d := by exact rfl) (hN : Nat.blt d N = true := by exact rfl)
    (k : SyL P ro N w0 M ds ops Q rest ((d, v) :: fr) L') : SyL P ro N w0 M ds ops Q (o :: rest) fr L := syl_v h hw hd hN k
theorem yn {ops : Array Oper} {rest : List Oper} {o : Oper} {v : Value} {L' : List Res} (h : OpT P ro N w0 M ds o (get fr) L (Det v L')) (hw : wants ops o (get fr) = some true := by exact rfl) (hd : o.dst = none := by exact rfl)
    (k : SyL P ro N w0 M ds ops Q rest fr L') : SyL P ro N w0 M ds ops Q (o :: rest) fr L := syl_vn h hw hd k
theorem ys {ops : Array Oper} {rest : List Oper} {o : Oper} {post : Value → List Res → Prop} {d : Nat} (h : OpT P ro N w0 M ds o (get fr) L post) (hw : wants ops o (get fr) = some true := by exact rfl) (hd : o.dst = some d := by exact rfl) (hN : Nat.blt d N = true := by exact rfl)
    (k : ∀ v L', post v L' → SyL P ro N w0 M ds ops Q rest ((d, v) :: fr) L') : SyL P ro N w0 M ds ops Q (o :: rest) fr L := syl h hw hd hN k
theorem syl_id {ops : Array Oper} {rest : List Oper} {o : Oper} (h : SyL P ro N w0 M ds ops Q (o :: rest) fr L) : SyL P ro N w0 M ds ops Q (o :: rest) fr L := h
/-- An operation that does not run: its guard says no. -/
theorem syl_skip {ops : Array Oper} {rest : List Oper} {o : Oper} {d : Nat} (hw : wants ops o (get fr) = some false) (hd : o.dst = some d) (hN : Nat.blt d N = true)
    (hr : SyL P ro N w0 M ds ops Q rest ((d, undef) :: fr) L) : SyL P ro N w0 M ds ops Q (o :: rest) fr L := by
  rintro a w ⟨Ds, hds, hs⟩
  unfold wpListIn
  rw [if_neg (by rw [wants_spec hs.agr hw]; decide)]
  refine ⟨fun f hf => trivial, ?_⟩
  rw [hd]
  exact hr _ _ ⟨Ds, hds, hs.put (Nat.le_of_ble_eq_true hN) _ hs.keep hs.hold⟩
theorem syl_skip_n {ops : Array Oper} {rest : List Oper} {o : Oper} (hw : wants ops o (get fr) = some false) (hd : o.dst = none)
    (hr : SyL P ro N w0 M ds ops Q rest fr L) : SyL P ro N w0 M ds ops Q (o :: rest) fr L := by
  rintro a w ⟨Ds, hds, hs⟩
  unfold wpListIn
  rw [if_neg (by rw [wants_spec hs.agr hw]; decide)]
  refine ⟨fun f hf => trivial, ?_⟩
  rw [hd]
  exact hr _ _ ⟨Ds, hds, hs.put_none hs.keep hs.hold⟩
end
end Go.Sy
