/- The logic of walks: a region whose order is open, walked once in the order of its text. -/
import Derived.Test.YtcahnkdnhejkkaaDoorSy
set_option linter.all false
namespace Go.Sy
open Go

theorem blt_true {a b : Nat} : Nat.blt a b = true ↔ a < b := by unfold Nat.blt; rw [Nat.ble_eq]; exact Iff.rfl
theorem blt_false {a b : Nat} : Nat.blt a b = false ↔ b ≤ a := by rw [← Bool.not_eq_true, blt_true]; exact Nat.not_lt
theorem beq_false {a b : Nat} : Nat.beq a b = false ↔ a ≠ b := ⟨Nat.ne_of_beq_eq_false, fun h => by
  cases hb : Nat.beq a b
  · rfl
  · exact (h (Nat.eq_of_beq_eq_true hb)).elim⟩
theorem beq_self' (a : Nat) : Nat.beq a a = true := Nat.beq_refl a
abbrev Env := Nat → Value × List Res
/-- What an operation leaves: a value that is known, or whatever meets a relation. -/
abbrev Item := (Env → Value) ⊕ (Env → Value → List Res → Prop)
def itVal (it : Item) (i : Nat) (ρ : Env) : Value := match it with | .inl v => v ρ | .inr _ => (ρ i).1
def itRes (it : Item) (i : Nat) (ρ : Env) : List Res := match it with | .inl _ => [] | .inr _ => (ρ i).2
def itRel (it : Item) (i : Nat) (ρ : Env) : Prop := match it with | .inl _ => True | .inr R => R ρ (ρ i).1 (ρ i).2
/-- What an item says hangs on these results alone. -/
def Loc (ts : List Nat) (it : Item) : Prop := ∀ ρ ρ' : Env, (∀ k, k ∈ ts → ρ k = ρ' k) → match it with | .inl v => v ρ = v ρ' | .inr R => R ρ = R ρ'
def only (ts : List Nat) (g : Nat → Option Value) (t : Nat) : Option Value := bif ts.contains t then g t else none
def pre (o : Oper) : List Nat := (o.after.toList.filter (Region.binds .any)).map (·.on)
def cl (C : List (List Nat)) (i : Nat) : List Nat := C.getD i []
def dstOf (ops : Array Oper) (i : Nat) : Option Nat := (ops[i]?).bind (·.dst)
def drawOk (ops : Array Oper) (n N : Nat) (C : List (List Nat)) : Bool :=
  Nat.ble n ops.size &&
  (List.range ops.size).all fun i => match ops[i]? with
    | none => true
    | some o =>
      (pre o).all (fun j => Nat.blt j i) && (match o.dst with | none => true | some d => Nat.blt d N) &&
      (cl C i).all (fun j => Nat.blt j i && ((pre o).contains j || (pre o).any fun k => (cl C k).contains j)) &&
      (bif Nat.blt i n then (List.range n).all (fun j => Nat.beq i j || match dstOf ops j with
        | none => true
        | some d => !(o.dst == some d) && (!((o.looksAt ops).contains d) || (bif Nat.blt j i then (cl C i).contains j else (cl C j).contains i)))
      else (List.range i).all (cl C i).contains)

def relOf (ts : List Nat) : List (Nat × (Env → Value → List Res → Prop)) → Env → Prop
  | [], _ => True
  | p :: r, ρ => bif ts.contains p.1 then p.2 ρ (ρ p.1).1 (ρ p.1).2 ∧ relOf ts r ρ else relOf ts r ρ
def resOf (ts : List Nat) : List (Nat × (Env → Value → List Res → Prop)) → Env → List Res → List Res
  | [], _, L => L
  | p :: r, ρ, L => bif ts.contains p.1 then (ρ p.1).2 ++ resOf ts r ρ L else resOf ts r ρ L
def ext (d : Option Nat) (v : Value) (fr : Fr) : Fr := match d with | some t => (t, v) :: fr | none => fr

section
variable {P : Program} {ro : Option Nat} {N : Nat} {w0 : World} {M : Nat → Prop} {ds : List Deferred}

/-- An operation, its guard regarded. -/
def GpT (P : Program) (ro : Option Nat) (N : Nat) (w0 : World) (M : Nat → Prop) (ds : List Deferred) (ops : Array Oper) (o : Oper) (g : Nat → Option Value) (L : List Res) (post : Value → List Res → Prop) : Prop :=
  (wants ops o g = some true ∧ OpT P ro N w0 M ds o g L post) ∨ (wants ops o g = some false ∧ post undef L)

/-- The heads of a region, in the order of the text; then its tail. -/
def DH (P : Program) (ro : Option Nat) (N : Nat) (w0 : World) (M : Nat → Prop) (ds : List Deferred) (ops : Array Oper) (Q : Exit → Act → World → Prop) (C : List (List Nat)) (L0 : List Res) :
    Nat → Nat → List Oper → (Env → Fr) → List (Nat × (Env → Value → List Res → Prop)) → Prop
  | 0, i, rest, F, rs => ∀ ρ, relOf (List.range i) rs ρ → SyL P ro N w0 M ds ops Q rest (F ρ) (resOf (List.range i) rs ρ L0)
  | _ + 1, _, [], _, _ => False
  | k + 1, i, o :: rest, F, rs =>
    (∃ v : Env → Value, Loc (cl C i) (.inl v) ∧ (∀ ρ, relOf (cl C i) rs ρ → GpT P ro N w0 M ds ops o (only (o.looksAt ops) (get (F ρ))) (resOf (cl C i) rs ρ L0) (Det (v ρ) (resOf (cl C i) rs ρ L0))) ∧
      DH P ro N w0 M ds ops Q C L0 k (i + 1) rest (fun ρ => ext o.dst (v ρ) (F ρ)) rs) ∨
    (∃ R : Env → Value → List Res → Prop, Loc (cl C i) (.inr R) ∧ (∀ ρ, relOf (cl C i) rs ρ → GpT P ro N w0 M ds ops o (only (o.looksAt ops) (get (F ρ))) (resOf (cl C i) rs ρ L0) (fun v L' => ∃ Nw, L' = Nw ++ resOf (cl C i) rs ρ L0 ∧ R ρ v Nw)) ∧
      DH P ro N w0 M ds ops Q C L0 k (i + 1) rest (fun ρ => ext o.dst (ρ i).1 (F ρ)) ((i, R) :: rs))

/-! ### The items of a derivation -/
def frT (ops : Array Oper) (it : Nat → Item) (fr : Fr) (ρ : Env) : Nat → Fr
  | 0 => fr
  | j + 1 => ext (dstOf ops j) (itVal (it j) j ρ) (frT ops it fr ρ j)
def rsT (it : Nat → Item) : Nat → List (Nat × (Env → Value → List Res → Prop))
  | 0 => []
  | j + 1 => match it j with | .inl _ => rsT it j | .inr R => (j, R) :: rsT it j
/-- What is known of operation i. -/
def Good (P : Program) (ro : Option Nat) (N : Nat) (w0 : World) (M : Nat → Prop) (ds : List Deferred) (ops : Array Oper) (C : List (List Nat)) (fr : Fr) (L0 : List Res) (it : Nat → Item) (i : Nat) (o : Oper) : Prop :=
  Loc (cl C i) (it i) ∧ ∀ ρ, relOf (cl C i) (rsT it i) ρ → GpT P ro N w0 M ds ops o (only (o.looksAt ops) (get (frT ops it fr ρ i))) (resOf (cl C i) (rsT it i) ρ L0)
    (match it i with
     | .inl v => Det (v ρ) (resOf (cl C i) (rsT it i) ρ L0)
     | .inr R => fun v L' => ∃ Nw, L' = Nw ++ resOf (cl C i) (rsT it i) ρ L0 ∧ R ρ v Nw)
theorem DH.items {ops : Array Oper} {Q : Exit → Act → World → Prop} {C : List (List Nat)} {fr : Fr} {L0 : List Res} : ∀ (k i : Nat) (rest : List Oper) (it0 : Nat → Item), (∀ j, rest[j]? = ops[i + j]?) →
    DH P ro N w0 M ds ops Q C L0 k i rest (fun ρ => frT ops it0 fr ρ i) (rsT it0 i) →
    ∃ it : Nat → Item, (∀ j, j < i → it j = it0 j) ∧ (∀ j, i ≤ j → j < i + k → ∃ o, ops[j]? = some o ∧ Good P ro N w0 M ds ops C fr L0 it j o) ∧
      (∀ ρ, relOf (List.range (i + k)) (rsT it (i + k)) ρ → SyL P ro N w0 M ds ops Q (rest.drop k) (frT ops it fr ρ (i + k)) (resOf (List.range (i + k)) (rsT it (i + k)) ρ L0))
  | 0, i, rest, it0, _, h => ⟨it0, fun _ _ => rfl, fun j h1 h2 => by omega, by simpa [DH] using h⟩
  | k + 1, i, [], _, _, h => by simp [DH] at h
  | k + 1, i, o :: rest, it0, hr, h => by
    have ho : ops[i]? = some o := by simpa using (hr 0).symm
    have hd : dstOf ops i = o.dst := by simp [dstOf, ho]
    have hr' : ∀ j, rest[j]? = ops[i + 1 + j]? := fun j => by have := hr (j + 1); simpa [Nat.add_assoc, Nat.add_comm 1 j] using this
    have key : ∀ (x : Item), Good P ro N w0 M ds ops C fr L0 (fun j => if j = i then x else it0 j) i o →
        DH P ro N w0 M ds ops Q C L0 k (i + 1) rest (fun ρ => frT ops (fun j => if j = i then x else it0 j) fr ρ (i + 1)) (rsT (fun j => if j = i then x else it0 j) (i + 1)) →
        ∃ it : Nat → Item, (∀ j, j < i → it j = it0 j) ∧ (∀ j, i ≤ j → j < i + (k + 1) → ∃ o, ops[j]? = some o ∧ Good P ro N w0 M ds ops C fr L0 it j o) ∧
          (∀ ρ, relOf (List.range (i + (k + 1))) (rsT it (i + (k + 1))) ρ → SyL P ro N w0 M ds ops Q ((o :: rest).drop (k + 1)) (frT ops it fr ρ (i + (k + 1))) (resOf (List.range (i + (k + 1))) (rsT it (i + (k + 1))) ρ L0)) := by
      intro x hg hdh
      obtain ⟨it, h1, h2, h3⟩ := DH.items k (i + 1) rest _ hr' hdh
      have same : ∀ j, j ≤ i → it j = (fun j => if j = i then x else it0 j) j := fun j hj => h1 j (by omega)
      have efr : ∀ ρ j, j ≤ i + 1 → frT ops it fr ρ j = frT ops (fun j => if j = i then x else it0 j) fr ρ j := by
        intro ρ j hj
        induction j with
        | zero => rfl
        | succ j ih => simp only [frT]; rw [ih (by omega), same j (by omega)]
      have ers : ∀ j, j ≤ i + 1 → rsT it j = rsT (fun j => if j = i then x else it0 j) j := by
        intro j hj
        induction j with
        | zero => rfl
        | succ j ih => simp only [rsT]; rw [ih (by omega), same j (by omega)]
      refine ⟨it, fun j hj => by rw [same j (by omega)]; simp [Nat.ne_of_lt hj], fun j hj1 hj2 => ?_, ?_⟩
      · by_cases e : j = i
        · subst e
          refine ⟨o, ho, ?_⟩
          unfold Good at hg ⊢
          rw [same j (Nat.le_refl _), ers j (by omega)]
          refine ⟨hg.1, fun ρ hρ => ?_⟩
          rw [efr ρ j (by omega)]
          exact hg.2 ρ hρ
        · exact h2 j (by omega) (by omega)
      · have e : i + (k + 1) = i + 1 + k := by omega
        rw [e]; simpa using h3
    have frI : ∀ (x : Item) ρ, frT ops (fun j => if j = i then x else it0 j) fr ρ i = frT ops it0 fr ρ i := by
      intro x ρ
      have : ∀ j, j ≤ i → frT ops (fun j => if j = i then x else it0 j) fr ρ j = frT ops it0 fr ρ j := by
        intro j hj
        induction j with
        | zero => rfl
        | succ j ih => simp only [frT]; rw [ih (by omega), if_neg (by omega)]
      exact this i (Nat.le_refl _)
    have rsI : ∀ (x : Item), rsT (fun j => if j = i then x else it0 j) i = rsT it0 i := by
      intro x
      have : ∀ j, j ≤ i → rsT (fun j => if j = i then x else it0 j) j = rsT it0 j := by
        intro j hj
        induction j with
        | zero => rfl
        | succ j ih => simp only [rsT]; rw [ih (by omega), if_neg (by omega)]
      exact this i (Nat.le_refl _)
    simp only [DH] at h
    rcases h with ⟨v, hl, hg, hdh⟩ | ⟨R, hl, hg, hdh⟩
    · refine key (.inl v) ?_ ?_
      · unfold Good
        simp only [if_true]
        rw [rsI]
        refine ⟨hl, fun ρ hρ => ?_⟩
        rw [frI]
        exact hg ρ hρ
      · simp only [frT, rsT, if_true, itVal, hd, frI, rsI]
        exact hdh
    · refine key (.inr R) ?_ ?_
      · unfold Good
        simp only [if_true]
        rw [rsI]
        refine ⟨hl, fun ρ hρ => ?_⟩
        rw [frI]
        exact hg ρ hρ
      · simp only [frT, rsT, if_true, itVal, hd, frI, rsI]
        exact hdh

/-! ### Collections of blocks -/
def fm (p : Nat → Bool) (f : Nat → List Res) : Nat → List Res
  | 0 => []
  | k + 1 => (bif p k then f k else []) ++ fm p f k
theorem fm_split {p q r : Nat → Bool} {f : Nat → List Res} : ∀ n, (∀ k, k < n → p k = (q k || r k) ∧ (q k && r k) = false) → (fm p f n).Perm (fm q f n ++ fm r f n)
  | 0, _ => List.Perm.refl _
  | k + 1, h => by
    obtain ⟨h1, h2⟩ := h k (by omega)
    have ih := fm_split (f := f) k (fun j hj => h j (by omega))
    simp only [fm, h1]
    cases hq : q k <;> cases hr : r k <;> simp only [cond_true, cond_false, Bool.or_self, Bool.or_true, Bool.or_false, List.nil_append, List.append_assoc]
    · exact ih
    · refine (List.Perm.append_left _ ih).trans ?_
      rw [← List.append_assoc, ← List.append_assoc]
      exact List.Perm.append_right _ List.perm_append_comm
    · exact List.Perm.append_left _ ih
    · rw [hq, hr] at h2; cases h2
theorem fm_ext {p : Nat → Bool} {f : Nat → List Res} {j : Nat} (h : ∀ k, j ≤ k → p k = false) : ∀ n, j ≤ n → fm p f n = fm p f j
  | 0, hj => by obtain rfl : j = 0 := by omega
                rfl
  | n + 1, hj => by
    by_cases e : j = n + 1
    · rw [e]
    · simp only [fm]; rw [h n (by omega), fm_ext h n (by omega)]; rfl
theorem fm_congr {p p' : Nat → Bool} {f f' : Nat → List Res} : ∀ n, (∀ k, k < n → p k = p' k ∧ (p k = true → f k = f' k)) → fm p f n = fm p' f' n
  | 0, _ => rfl
  | n + 1, h => by
    obtain ⟨h1, h2⟩ := h n (by omega)
    simp only [fm]
    rw [fm_congr n (fun k hk => h k (by omega)), ← h1]
    cases hp : p n
    · rfl
    · rw [h2 hp]
theorem fm_none {p : Nat → Bool} {f : Nat → List Res} : ∀ n, (∀ k, k < n → p k = false) → fm p f n = []
  | 0, _ => rfl
  | n + 1, h => by simp only [fm]; rw [h n (by omega), fm_none n (fun k hk => h k (by omega))]; rfl
theorem fm_one {f : Nat → List Res} (i : Nat) : ∀ n, i < n → fm (fun k => Nat.beq k i) f n = f i
  | n + 1, h => by
    simp only [fm]
    by_cases e : n = i
    · subst e
      rw [fm_none n (fun k hk => beq_false.2 (by omega)), beq_self']; simp
    · rw [fm_one i n (by omega), beq_false.2 e]; rfl
theorem resOf_perm {it : Nat → Item} {ts : List Nat} {ρ : Env} {L : List Res} : ∀ i, (resOf ts (rsT it i) ρ L).Perm (fm (fun k => ts.contains k) (fun k => itRes (it k) k ρ) i ++ L)
  | 0 => List.Perm.refl _
  | i + 1 => by
    have ih := resOf_perm (it := it) (ts := ts) (ρ := ρ) (L := L) i
    simp only [rsT, fm]
    cases hi : it i with
    | inl v => simp only [itRes]; cases ts.contains i <;> exact ih
    | inr R =>
      simp only [itRes, resOf]
      cases ts.contains i
      · exact ih
      · simp only [cond_true, List.append_assoc]; exact List.Perm.append_left _ ih
theorem relOf_of {it : Nat → Item} {ts : List Nat} {ρ : Env} : ∀ i, (∀ k, k < i → ts.contains k = true → itRel (it k) k ρ) → relOf ts (rsT it i) ρ
  | 0, _ => trivial
  | i + 1, h => by
    have ih := relOf_of (it := it) (ts := ts) (ρ := ρ) i (fun k hk hc => h k (by omega) hc)
    simp only [rsT]
    cases hi : it i with
    | inl v => exact ih
    | inr R =>
      simp only [relOf]
      cases hc : ts.contains i
      · exact ih
      · have := h i (by omega) hc
        rw [hi] at this
        exact ⟨this, ih⟩

/-! ### Slots -/
theorem frT_get {ops : Array Oper} {it : Nat → Item} {fr : Fr} {ρ : Env} {t : Nat} {v : Value} : ∀ j, get (frT ops it fr ρ j) t = some v →
    (∃ k, k < j ∧ dstOf ops k = some t ∧ v = itVal (it k) k ρ) ∨ ((∀ k, k < j → dstOf ops k ≠ some t) ∧ get fr t = some v)
  | 0, h => .inr ⟨fun k hk => by omega, h⟩
  | j + 1, h => by
    simp only [frT] at h
    cases hd : dstOf ops j with
    | none =>
      rw [hd] at h
      rcases frT_get j h with ⟨k, h1, h2, h3⟩ | ⟨h1, h2⟩
      · exact .inl ⟨k, by omega, h2, h3⟩
      · refine .inr ⟨fun k hk => ?_, h2⟩
        by_cases e : k = j
        · subst e; rw [hd]; exact fun e => by cases e
        · exact h1 k (by omega)
    | some d =>
      rw [hd] at h
      simp only [ext, get] at h
      cases hb : Nat.beq d t with
      | true =>
        rw [hb] at h; simp only [cond_true, Option.some.injEq] at h
        have := Nat.eq_of_beq_eq_true hb; subst this
        exact .inl ⟨j, by omega, hd, h.symm⟩
      | false =>
        rw [hb] at h; simp only [cond_false] at h
        have hne := Nat.ne_of_beq_eq_false hb
        rcases frT_get j h with ⟨k, h1, h2, h3⟩ | ⟨h1, h2⟩
        · exact .inl ⟨k, by omega, h2, h3⟩
        · refine .inr ⟨fun k hk => ?_, h2⟩
          by_cases e : k = j
          · subst e; rw [hd]; exact fun e => hne (Option.some.inj e)
          · exact h1 k (by omega)

/-! ### What the look over a region tells -/
structure DOk (ops : Array Oper) (n N : Nat) (C : List (List Nat)) : Prop where
  le : n ≤ ops.size
  acyc : ∀ (i : Nat) (o : Oper), ops[i]? = some o → ∀ j ∈ pre o, j < i
  low : ∀ (i : Nat) (o : Oper), ops[i]? = some o → ∀ d, o.dst = some d → d < N
  clo : ∀ (i : Nat) (o : Oper), ops[i]? = some o → ∀ j ∈ cl C i, j < i ∧ (j ∈ pre o ∨ ∃ k ∈ pre o, j ∈ cl C k)
  slot : ∀ (i : Nat) (o : Oper), ops[i]? = some o → i < n → ∀ j, j < n → j ≠ i → ∀ d, dstOf ops j = some d → o.dst ≠ some d ∧ (d ∈ o.looksAt ops → (j < i → j ∈ cl C i) ∧ (i < j → i ∈ cl C j))
  tail : ∀ (i : Nat) (o : Oper), ops[i]? = some o → n ≤ i → ∀ j, j < i → j ∈ cl C i
theorem drawOk_spec {ops : Array Oper} {n : Nat} {C : List (List Nat)} (h : drawOk ops n N C = true) : DOk ops n N C := by
  unfold drawOk at h
  rw [Bool.and_eq_true, List.all_eq_true] at h
  obtain ⟨h0, h1⟩ := h
  have get1 : ∀ i o, ops[i]? = some o → _ := fun i o ho => by
    have hlt : i < ops.size := (Array.getElem?_eq_some_iff.1 ho).1
    have := h1 i (List.mem_range.2 hlt)
    rw [ho] at this
    simp only [Bool.and_eq_true] at this
    exact this
  refine ⟨Nat.le_of_ble_eq_true h0, fun i o ho j hj => ?_, fun i o ho d hd => ?_, fun i o ho j hj => ?_, fun i o ho hi j hj hji d hd => ?_, fun i o ho hi j hj => ?_⟩
  · have := (get1 i o ho).1.1.1
    rw [List.all_eq_true] at this
    exact blt_true.1 (this j hj)
  · have := (get1 i o ho).1.1.2
    rw [hd] at this
    exact blt_true.1 this
  · have := (get1 i o ho).1.2
    rw [List.all_eq_true] at this
    have := this j hj
    rw [Bool.and_eq_true, Bool.or_eq_true, List.any_eq_true] at this
    refine ⟨blt_true.1 this.1, this.2.imp (by simp) fun ⟨k, hk, hc⟩ => ⟨k, hk, by simpa using hc⟩⟩
  · have := (get1 i o ho).2
    rw [blt_true.2 hi, cond_true, List.all_eq_true] at this
    have := this j (List.mem_range.2 hj)
    rw [beq_false.2 (fun e => hji e.symm), Bool.false_or, hd] at this
    simp only [Bool.and_eq_true, Bool.or_eq_true, Bool.not_eq_true'] at this
    refine ⟨by simpa using this.1, fun hl => ?_⟩
    have h2 := this.2.resolve_left (by simp [hl])
    refine ⟨fun hji' => ?_, fun hij => ?_⟩
    · rw [blt_true.2 hji', cond_true] at h2; simpa using h2
    · rw [blt_false.2 (by omega), cond_false] at h2; simpa using h2
  · have := (get1 i o ho).2
    rw [blt_false.2 hi, cond_false, List.all_eq_true] at this
    simpa using this j (List.mem_range.2 hj)
theorem mem_pre {o : Oper} {j : Nat} : j ∈ pre o ↔ ∃ e ∈ o.after, Region.binds .any e = true ∧ e.on = j := by
  unfold pre
  simp only [List.mem_map, List.mem_filter, Array.mem_toList_iff]
  exact ⟨fun ⟨e, ⟨h1, h2⟩, h3⟩ => ⟨e, h1, h2, h3⟩, fun ⟨e, h1, h2, h3⟩ => ⟨e, ⟨h1, h2⟩, h3⟩⟩
theorem clo_sub {ops : Array Oper} {n : Nat} {C : List (List Nat)} (hk : DOk ops n N C) {p : Nat → Bool} (down : ∀ k o, p k = true → ops[k]? = some o → ∀ j ∈ pre o, p j = true) :
    ∀ i o, ops[i]? = some o → (∀ j ∈ pre o, p j = true) → ∀ j ∈ cl C i, p j = true := by
  intro i
  induction i using Nat.strongRecOn with
  | _ i ih =>
    intro o ho hp j hj
    obtain ⟨_, h | ⟨k, h1, h2⟩⟩ := hk.clo i o ho j hj
    · exact hp j h
    · have hki := hk.acyc i o ho k h1
      have hlt : i < ops.size := (Array.getElem?_eq_some_iff.1 ho).1
      have hok : ops[k]? = some ops[k] := Array.getElem?_eq_getElem (by omega)
      exact ih k hki _ hok (down k _ (hp k h1) hok) j h2

def unl (p : Nat → Bool) : Nat → Nat
  | 0 => 0
  | k + 1 => (bif p k then 0 else 1) + unl p k
theorem unl_zero {p : Nat → Bool} : ∀ n, unl p n = 0 → ∀ k, k < n → p k = true
  | n + 1, h, k, hk => by
    simp only [unl] at h
    by_cases e : k = n
    · subst e; cases hp : p k
      · rw [hp] at h; simp at h
      · rfl
    · exact unl_zero n (by omega) k (by omega)
theorem unl_same {p p' : Nat → Bool} : ∀ n, (∀ k, k < n → p' k = p k) → unl p' n = unl p n
  | 0, _ => rfl
  | n + 1, h => by simp only [unl]; rw [h n (by omega), unl_same n (fun k hk => h k (by omega))]
theorem unl_set {p p' : Nat → Bool} {i : Nat} (hi : p i = false) (hi' : p' i = true) (h : ∀ k, k ≠ i → p' k = p k) : ∀ n, i < n → unl p' n + 1 = unl p n
  | n + 1, hn => by
    simp only [unl]
    by_cases e : i = n
    · subst e; rw [hi, hi', unl_same i (fun k hk => h k (by omega))]; simp; omega
    · rw [h n (fun e' => e e'.symm)]; have := unl_set hi hi' h n (by omega); omega

/-- The state amid a region, whatever has been done. -/
structure DInv (ops : Array Oper) (n : Nat) (fr : Fr) (L0 : List Res) (it : Nat → Item) (N : Nat) (w0 : World) (M : Nat → Prop) (dd : List Deferred) (listed : Array Bool) (ρ : Env) (a : Act) (w : World) : Prop where
  size : listed.size = ops.size
  head : ∀ k, listed.getD k false = true → k < n
  down : ∀ (k : Nat) (o : Oper), listed.getD k false = true → ops[k]? = some o → ∀ j ∈ pre o, listed.getD j false = true
  tsize : a.tmps.size = N
  defs : a.defers = dd
  s1 : ∀ k d, listed.getD k false = true → dstOf ops k = some d → a.tmps[d]? = some (itVal (it k) k ρ)
  s2 : ∀ t v, get fr t = some v → (∀ k, listed.getD k false = true → dstOf ops k ≠ some t) → a.tmps[t]? = some v
  rel : ∀ k, listed.getD k false = true → itRel (it k) k ρ
  keep : Keep M w0 w
  hold : Holds w0.heap.size M (fm (fun k => listed.getD k false) (fun k => itRes (it k) k ρ) n ++ L0) w

section sound
variable {ops : Array Oper} {n : Nat} {C : List (List Nat)} {fr : Fr} {L0 : List Res} {it : Nat → Item} {Q : Exit → Act → World → Prop} {dd : List Deferred}
theorem getD_true_false {listed : Array Bool} {i : Nat} (h : listed.getD i true = false) : listed.getD i false = false := by
  simp only [Array.getD_eq_getD_getElem?] at h ⊢
  cases hl : listed[i]? with
  | none => rw [hl] at h; simp at h
  | some b => rw [hl] at h; simpa using h

theorem dstep (hk : DOk ops n N C) (hg : ∀ i o, i < n → ops[i]? = some o → Good P ro N w0 M ds ops C fr L0 it i o) {listed : Array Bool} {ρ : Env} {a : Act} {w : World}
    (inv : DInv ops n fr L0 it N w0 M dd listed ρ a w) {i : Nat} (hi : i ∈ Region.ready .any ops listed) (hin : i < n) {K : Act → World → Prop}
    (hK : ∀ ρ' a' w', DInv ops n fr L0 it N w0 M dd (listed.setIfInBounds i true) ρ' a' w' → K a' w') : wpOpIn (FW ro) 0 P ops Q i K a w := by
  obtain ⟨hli, o, ho, hedges⟩ := mem_ready.1 hi
  have hl0 := getD_true_false hli
  have hlt : i < ops.size := (Array.getElem?_eq_some_iff.1 ho).1
  have hpre : ∀ j ∈ pre o, listed.getD j false = true := fun j hj => by
    obtain ⟨e, he, hb, rfl⟩ := mem_pre.1 hj
    exact hedges e he hb
  have hdn := clo_sub hk (p := fun k => listed.getD k false) inv.down
  have hcl := hdn i o ho hpre
  have hdst : dstOf ops i = o.dst := by simp [dstOf, ho]
  have hclk : ∀ k, listed.getD k false = true → i ∉ cl C k := fun k hlk hik => by
    have hkn := inv.head k hlk
    have hok : ops[k]? = some (ops[k]'(by have := hk.le; omega)) := Array.getElem?_eq_getElem _
    have : listed.getD i false = true := hdn k _ hok (inv.down k _ hlk hok) i hik
    rw [hl0] at this; cases this
  have hcli : i ∉ cl C i := fun h => by have := (hk.clo i o ho i h).1; omega
  have hgood := hg i o hin ho
  have hrel : relOf (cl C i) (rsT it i) ρ := relOf_of i fun k hki hc => inv.rel k (hcl k (by simpa using hc))
  have hgp := hgood.2 ρ hrel
  have X : List Res := []
  -- memory, as the operation sees it
  have hperm : (fm (fun k => listed.getD k false) (fun k => itRes (it k) k ρ) n ++ L0).Perm (resOf (cl C i) (rsT it i) ρ L0 ++ fm (fun k => listed.getD k false && !(cl C i).contains k) (fun k => itRes (it k) k ρ) n) := by
    have h1 := fm_split (p := fun k => listed.getD k false) (q := fun k => (cl C i).contains k) (r := fun k => listed.getD k false && !(cl C i).contains k) (f := fun k => itRes (it k) k ρ) n (fun k _ => by
      cases hc : (cl C i).contains k
      · simp
      · have : listed.getD k false = true := hcl k (by simpa using hc)
        rw [this]; exact ⟨rfl, rfl⟩)
    rw [fm_ext (p := fun k => (cl C i).contains k) (j := i) (fun k hik => by
      cases hc : (cl C i).contains k
      · rfl
      · have := (hk.clo i o ho k (by simpa using hc)).1; omega) n (by omega)] at h1
    have h2 := resOf_perm (it := it) (ts := cl C i) (ρ := ρ) (L := L0) i
    refine (List.Perm.append_right L0 h1).trans ?_
    refine List.Perm.trans ?_ (List.Perm.append_right _ h2.symm)
    rw [List.append_assoc, List.append_assoc]
    exact List.Perm.append_left _ List.perm_append_comm
  have hst : St N w0 M ds (only (o.looksAt ops) (get (frT ops it fr ρ i))) (resOf (cl C i) (rsT it i) ρ L0 ++ fm (fun k => listed.getD k false && !(cl C i).contains k) (fun k => itRes (it k) k ρ) n) a w := by
    refine ⟨inv.tsize, fun t v hv => ?_, inv.keep, inv.hold.perm hperm⟩
    unfold only at hv
    cases hc : (o.looksAt ops).contains t
    · rw [hc] at hv; cases hv
    · rw [hc, cond_true] at hv
      have htl : t ∈ o.looksAt ops := by simpa using hc
      rcases frT_get i hv with ⟨k, hki, hkd, rfl⟩ | ⟨hno, hfr⟩
      · have hs := (hk.slot i o ho hin k (by omega) (by omega) t hkd).2 htl
        exact inv.s1 k t (hcl k (hs.1 hki)) hkd
      · refine inv.s2 t v hfr fun k hlk hkd => ?_
        have hkn := inv.head k hlk
        have hki : k ≠ i := fun e => by rw [e, hl0] at hlk; cases hlk
        have hs := (hk.slot i o ho hin k hkn hki t hkd).2 htl
        by_cases hlt' : k < i
        · exact hno k hlt' hkd
        · exact hclk k hlk (hs.2 (by omega))
  -- what follows from its results
  have fin : ∀ (ρ' : Env) (v : Value) (w' : World), (∀ k, k ≠ i → ρ' k = ρ k) → itVal (it i) i ρ' = v → itRel (it i) i ρ' → Keep M w0 w' →
      Holds w0.heap.size M (itRes (it i) i ρ' ++ resOf (cl C i) (rsT it i) ρ L0 ++ fm (fun k => listed.getD k false && !(cl C i).contains k) (fun k => itRes (it k) k ρ) n) w' → K (a.put o.dst v) w' := by
    intro ρ' v w' hρ hv hr hkp hh
    have old : ∀ k, listed.getD k false = true → itVal (it k) k ρ' = itVal (it k) k ρ ∧ itRes (it k) k ρ' = itRes (it k) k ρ ∧ (itRel (it k) k ρ → itRel (it k) k ρ') := by
      intro k hlk
      have hki : k ≠ i := fun e => by rw [e, hl0] at hlk; cases hlk
      have hkn := inv.head k hlk
      have hok : ops[k]? = some (ops[k]'(by have := hk.le; omega)) := Array.getElem?_eq_getElem _
      have hloc := (hg k _ hkn hok).1 ρ' ρ (fun j hj => hρ j (fun e => hclk k hlk (e ▸ hj)))
      cases hit : it k with
      | inl f => rw [hit] at hloc; exact ⟨hloc, rfl, fun h => h⟩
      | inr R => rw [hit] at hloc; exact ⟨by simp only [itVal, hρ k hki], by simp only [itRes, hρ k hki], fun h => by simp only [itRel, hρ k hki] at h ⊢; rw [show R ρ' = R ρ from hloc]; exact h⟩
    have hset : ∀ k, (listed.setIfInBounds i true).getD k false = true → k = i ∨ listed.getD k false = true := fun k hk' => by
      by_cases e : i = k
      · exact .inl e.symm
      · rw [getD_set_ne false e] at hk'; exact .inr hk'
    have hseti : (listed.setIfInBounds i true).getD i false = true := by
      have : i < listed.size := by rw [inv.size]; exact hlt
      simp [Array.getD_eq_getD_getElem?, this]
    refine hK ρ' _ w' ⟨by simpa using inv.size, fun k hk' => ?_, fun k o' hk' hok j hj => ?_, ?_, ?_, fun k d hk' hkd => ?_, fun t u hu hno => ?_, fun k hk' => ?_, hkp, ?_⟩
    · rcases hset k hk' with rfl | h
      · exact hin
      · exact inv.head k h
    · rcases hset k hk' with rfl | h
      · rw [ho] at hok; cases hok; exact getD_set_true (hpre j hj)
      · exact getD_set_true (inv.down k o' h hok j hj)
    · cases hd : o.dst <;> simp [Act.put, inv.tsize]
    · cases hd : o.dst <;> simp [Act.put, inv.defs]
    · rcases hset k hk' with rfl | h
      · rw [hdst] at hkd
        rw [hkd]
        have hdN := hk.low k o ho d hkd
        simp only [Act.put]
        rw [Array.getElem?_setIfInBounds_self_of_lt (by rw [inv.tsize]; exact hdN), hv]
      · have hki : k ≠ i := fun e => by rw [e, hl0] at h; cases h
        rw [(old k h).1]
        have hne := (hk.slot i o ho hin k (inv.head k h) hki d hkd).1
        have := inv.s1 k d h hkd
        cases hd : o.dst with
        | none => exact this
        | some d' =>
          rw [hd] at hne
          simp only [Act.put]
          rw [Array.getElem?_setIfInBounds_ne (fun e => hne (by rw [e]))]; exact this
    · have h1 := inv.s2 t u hu (fun k hlk => hno k (getD_set_true hlk))
      have h2 := hno i hseti
      rw [hdst] at h2
      cases hd : o.dst with
      | none => exact h1
      | some d' =>
        rw [hd] at h2
        simp only [Act.put]
        rw [Array.getElem?_setIfInBounds_ne (fun e => h2 (by rw [e]))]; exact h1
    · rcases hset k hk' with rfl | h
      · exact hr
      · exact (old k h).2.2 (inv.rel k h)
    · refine hh.perm ?_
      have h1 := fm_split (p := fun k => (listed.setIfInBounds i true).getD k false) (q := fun k => Nat.beq k i) (r := fun k => listed.getD k false) (f := fun k => itRes (it k) k ρ') n (fun k _ => by
        by_cases e : i = k
        · subst e; rw [hseti, hl0, beq_self']; simp
        · rw [getD_set_ne false e]; simp [beq_false.2 (fun e' => e e'.symm : k ≠ i)])
      rw [fm_one i n hin, fm_congr (p := fun k => listed.getD k false) (p' := fun k => listed.getD k false) (f := fun k => itRes (it k) k ρ') (f' := fun k => itRes (it k) k ρ) n (fun k _ => ⟨rfl, fun h => (old k h).2.1⟩)] at h1
      refine List.Perm.trans ?_ (List.Perm.append_right L0 h1.symm)
      rw [List.append_assoc, List.append_assoc]
      exact List.Perm.append_left _ hperm.symm
  have done : ∀ v L' w', (match it i with
     | .inl v => Det (v ρ) (resOf (cl C i) (rsT it i) ρ L0)
     | .inr R => fun v L' => ∃ Nw, L' = Nw ++ resOf (cl C i) (rsT it i) ρ L0 ∧ R ρ v Nw) v L' → Keep M w0 w' →
      Holds w0.heap.size M (L' ++ fm (fun k => listed.getD k false && !(cl C i).contains k) (fun k => itRes (it k) k ρ) n) w' → K (a.put o.dst v) w' := by
    intro v L' w' hp hkp hh
    have hloc := hgood.1
    have fin := fin
    cases hit : it i with
    | inl f =>
      rw [hit] at hp fin
      obtain ⟨e1, e2⟩ := hp
      subst e1; subst e2
      exact fin ρ _ w' (fun _ _ => rfl) rfl trivial hkp hh
    | inr R =>
      rw [hit] at hp fin hloc
      obtain ⟨Nw, e, hR⟩ := hp
      subst e
      refine fin (fun k => if k = i then (v, Nw) else ρ k) v w' (fun k hk' => by simp [hk']) (by simp [itVal]) ?_ hkp (by simpa [itRes] using hh)
      have hl := hloc (fun k => if k = i then (v, Nw) else ρ k) ρ (fun k hk' => by
        have : k ≠ i := fun e => hcli (e ▸ hk')
        simp [this])
      simp only at hl
      simp only [itRel, if_true]
      rw [hl]; exact hR
  unfold wpOpIn
  rw [ho]
  simp only
  rcases hgp with ⟨hw, hop⟩ | ⟨hw, hu⟩
  · rw [if_pos (wants_spec hst.agr hw)]
    exact hop a w _ K Q hst (fun v w' L' hp hkp hh => done v L' w' hp hkp hh)
  · rw [if_neg (by rw [wants_spec hst.agr hw]; decide)]
    exact ⟨fun _ _ => trivial, done undef _ w hu hst.keep hst.hold⟩

theorem dtail (hk : DOk ops n N C) : ∀ (fuel q : Nat) (rest : List Oper) (listed : Array Bool) (a : Act) (w : World), fuel + q = ops.size → n ≤ q → listed.size = ops.size → (∀ k, k < ops.size → listed.getD k false = Nat.blt k q) →
    (∀ j, rest[j]? = ops[q + j]?) → wpListIn (FW ro) 0 P ops Q rest a w → wpAnyIn (FW ro) 0 P .any ops Q fuel listed a w
  | 0, q, rest, listed, a, w, hf, hn, hs, hl, hr, h => by
    have hre : rest = [] := by
      cases rest with
      | nil => rfl
      | cons o r => have := hr 0; simp at this; have := (Array.getElem?_eq_some_iff.1 this.symm).1; omega
    subst hre
    refine ⟨?_, h⟩
    refine List.eq_nil_iff_forall_not_mem.2 fun i hi => ?_
    obtain ⟨h1, o, ho, _⟩ := mem_ready.1 hi
    have hlt : i < ops.size := (Array.getElem?_eq_some_iff.1 ho).1
    have := hl i hlt
    rw [getD_true_false h1] at this
    have h3 : Nat.blt i q = true := blt_true.2 (by omega)
    rw [h3] at this; cases this
  | f + 1, q, rest, listed, a, w, hf, hn, hs, hl, hr, h => by
    have hq : q < ops.size := by omega
    have hoq : ops[q]? = some ops[q] := Array.getElem?_eq_getElem hq
    have hready : q ∈ Region.ready .any ops listed := mem_ready.2 ⟨by
      have := hl q hq
      rw [blt_false.2 (Nat.le_refl q)] at this
      simp only [Array.getD_eq_getD_getElem?] at this ⊢
      rw [Array.getElem?_eq_getElem (by omega)] at this ⊢
      simpa using this, _, hoq, fun e he hb => by
      have hp := hk.acyc q _ hoq e.on (mem_pre.2 ⟨e, he, hb, rfl⟩)
      rw [hl _ (by omega)]; exact blt_true.2 hp⟩
    refine ⟨fun hnil => (by rw [hnil] at hready; cases hready), fun i hi => ?_⟩
    obtain ⟨h1, o, ho, hedges⟩ := mem_ready.1 hi
    have hlt : i < ops.size := (Array.getElem?_eq_some_iff.1 ho).1
    have hl1 := hl i hlt
    rw [getD_true_false h1] at hl1
    have hqi : q ≤ i := by
      rcases Nat.lt_or_ge i q with h' | h'
      · rw [blt_true.2 h'] at hl1; cases hl1
      · exact h'
    have heq : i = q := by
      rcases Nat.lt_or_ge q i with h' | h'
      · exfalso
        have hc := hk.tail i o ho (by omega) q h'
        have := clo_sub hk (p := fun k => Nat.blt k q) (fun k o' hk' hok j hj => by
          have h2 := hk.acyc k o' hok j hj
          have := blt_true.1 hk'
          exact blt_true.2 (by omega)) i o ho (fun j hj => by
          obtain ⟨e, he, hb, rfl⟩ := mem_pre.1 hj
          have h3 := hedges e he hb
          have h4 := hk.acyc i o ho e.on hj
          rw [hl _ (by omega)] at h3; exact h3) q hc
        have := blt_true.1 this; omega
      · omega
    subst heq
    obtain ⟨o', r, rfl⟩ : ∃ o' r, rest = o' :: r := by
      cases rest with
      | nil => have := hr 0; simp at this; omega
      | cons o' r => exact ⟨o', r, rfl⟩
    have he : o' = o := by have := hr 0; simp [ho] at this; exact this
    subst he
    have hr' : ∀ j, r[j]? = ops[i + 1 + j]? := fun j => by have := hr (j + 1); simpa [Nat.add_assoc, Nat.add_comm 1 j] using this
    have hnext : ∀ a w, wpListIn (FW ro) 0 P ops Q r a w → wpAnyIn (FW ro) 0 P .any ops Q f (listed.setIfInBounds i true) a w := fun a w h' =>
      dtail hk f (i + 1) r _ a w (by omega) (by omega) (by simpa using hs) (fun k hks => by
        by_cases e : i = k
        · subst e
          have : i < listed.size := by omega
          rw [blt_true.2 (Nat.lt_succ_self i)]; simp [Array.getD_eq_getD_getElem?, this]
        · rw [getD_set_ne false e, hl k hks]
          rw [Bool.eq_iff_iff, blt_true, blt_true]; omega) hr' h'
    unfold wpOpIn
    rw [ho]
    simp only
    unfold wpListIn at h
    split
    · rename_i hw; rw [if_pos hw] at h; exact Oper.wpIn_mono hnext h
    · rename_i hw; rw [if_neg hw] at h; exact ⟨h.1, hnext _ _ h.2⟩

theorem resOf_app {ts : List Nat} {ρ : Env} {L Y : List Res} : ∀ rs, resOf ts rs ρ (L ++ Y) = resOf ts rs ρ L ++ Y
  | [] => rfl
  | p :: r => by
    simp only [resOf]
    cases ts.contains p.1
    · simp only [cond_false]; exact resOf_app r
    · simp only [cond_true]; rw [resOf_app r, List.append_assoc]
theorem GpT.app {o : Oper} {g : Nat → Option Value} {L : List Res} {post : Value → List Res → Prop} (h : GpT P ro N w0 M ds ops o g L post) (Y : List Res) : GpT P ro N w0 M ds ops o g (L ++ Y) (fun v L' => ∃ L1, L' = L1 ++ Y ∧ post v L1) := by
  rcases h with ⟨hw, h⟩ | ⟨hw, h⟩
  · refine .inl ⟨hw, fun a w X next Q hs hn => h a w (Y ++ X) next Q (by rw [← List.append_assoc]; exact hs) fun v w' L' hp hk hh => hn v w' (L' ++ Y) ⟨L', rfl, hp⟩ hk (by rw [List.append_assoc]; exact hh)⟩
  · exact .inr ⟨hw, L, rfl, h⟩
theorem GpT.mono {o : Oper} {g : Nat → Option Value} {L : List Res} {post post' : Value → List Res → Prop} (h : GpT P ro N w0 M ds ops o g L post) (hp : ∀ v L', post v L' → post' v L') : GpT P ro N w0 M ds ops o g L post' :=
  h.imp (fun ⟨hw, h⟩ => ⟨hw, fun a w X next Q hs hn => h a w X next Q hs fun v w' L' hv => hn v w' L' (hp v L' hv)⟩) (fun ⟨hw, h⟩ => ⟨hw, hp _ _ h⟩)
theorem Good.app {i : Nat} {o : Oper} (h : Good P ro N w0 M ds ops C fr L0 it i o) (Y : List Res) : Good P ro N w0 M ds ops C fr (L0 ++ Y) it i o := by
  refine ⟨h.1, fun ρ hρ => ?_⟩
  have := (h.2 ρ hρ).app Y
  rw [resOf_app]
  refine this.mono fun v L' hv => ?_
  obtain ⟨L1, rfl, hv⟩ := hv
  cases hi : it i with
  | inl f => rw [hi] at hv; exact ⟨hv.1, by rw [hv.2]⟩
  | inr R => rw [hi] at hv; obtain ⟨Nw, e, hr⟩ := hv; exact ⟨Nw, by rw [e, List.append_assoc], hr⟩
theorem dall {Ds : List Nat} (hk : DOk ops n N C) (hg : ∀ i o, i < n → ops[i]? = some o → Good P ro N w0 M ds ops C fr (L0 ++ Ds.map dob) it i o)
    (hfin : ∀ ρ, relOf (List.range n) (rsT it n) ρ → SyL P ro N w0 M ds ops Q (ops.toList.drop n) (frT ops it fr ρ n) (resOf (List.range n) (rsT it n) ρ L0)) :
    ∀ (fuel : Nat) (listed : Array Bool) (ρ : Env) (a : Act) (w : World), DInv ops n fr (L0 ++ Ds.map dob) it N w0 M (Ds.map col ++ ds) listed ρ a w → unl (fun k => listed.getD k false) ops.size = fuel → wpAnyIn (FW ro) 0 P .any ops Q fuel listed a w := by
  intro fuel
  induction fuel with
  | zero =>
    intro listed ρ a w inv hu
    have hall := unl_zero _ hu
    have hn : n = ops.size := by
      rcases Nat.lt_or_ge n ops.size with h | h
      · have := inv.head n (hall n h); omega
      · have := hk.le; omega
    exact tailAt inv (fun k hk' => hall k (by omega)) 0 (by omega)
  | succ f ih =>
    intro listed ρ a w inv hu
    by_cases hh : ∀ k, k < n → listed.getD k false = true
    · have hnu : unl (fun k => listed.getD k false) ops.size + n = ops.size := by
        have key : ∀ m, n ≤ m → m ≤ ops.size → unl (fun k => listed.getD k false) m + n = m := by
          intro m
          induction m with
          | zero => intro h1 _; obtain rfl : n = 0 := by omega
                    rfl
          | succ m ihm =>
            intro h1 h2
            by_cases e : n = m + 1
            · subst e
              have hz : ∀ j, j ≤ m + 1 → unl (fun k => listed.getD k false) j = 0 := by
                intro j
                induction j with
                | zero => intro _; rfl
                | succ j ihj => intro hj; simp only [unl]; rw [hh j (by omega), ihj (by omega)]; rfl
              rw [hz _ (Nat.le_refl _)]; omega
            · simp only [unl]
              have : listed.getD m false = false := by
                cases hb : listed.getD m false
                · rfl
                · have := inv.head m hb; omega
              rw [this]; have := ihm (by omega) (by omega); simp only [cond_false]; omega
        exact key _ hk.le (Nat.le_refl _)
      exact tailAt inv hh (f + 1) (by omega)
    · refine ⟨fun hnil => ?_, fun i hi => ?_⟩
      · exfalso
        -- the least head that has not been carried out could be
        apply hh
        intro k
        induction k using Nat.strongRecOn with
        | _ k ihk =>
          intro hkn
          cases hb : listed.getD k false with
          | true => rfl
          | false =>
            exfalso
            have hks : k < ops.size := by have := hk.le; omega
            have hok : ops[k]? = some ops[k] := Array.getElem?_eq_getElem hks
            have : k ∈ Region.ready .any ops listed := mem_ready.2 ⟨by
              simp only [Array.getD_eq_getD_getElem?] at hb ⊢
              rw [Array.getElem?_eq_getElem (by rw [inv.size]; exact hks)] at hb ⊢
              simpa using hb, _, hok, fun e he hbd => by
              have hp := hk.acyc k _ hok e.on (mem_pre.2 ⟨e, he, hbd, rfl⟩)
              exact ihk e.on hp (by omega)⟩
            rw [hnil] at this; cases this
      · obtain ⟨h1, o, ho, hedges⟩ := mem_ready.1 hi
        have hl0 := getD_true_false h1
        have hlt : i < ops.size := (Array.getElem?_eq_some_iff.1 ho).1
        have hin : i < n := by
          rcases Nat.lt_or_ge i n with h | h
          · exact h
          · exfalso
            apply hh
            intro k hkn
            have hdn := clo_sub hk (p := fun k => listed.getD k false) inv.down i o ho (fun j hj => by
              obtain ⟨e, he, hb, rfl⟩ := mem_pre.1 hj
              exact hedges e he hb)
            exact hdn k (hk.tail i o ho h k (by omega))
        refine dstep hk hg inv hi hin (fun ρ' a' w' inv' => ih _ ρ' a' w' inv' ?_)
        have := unl_set (p := fun k => listed.getD k false) (p' := fun k => (listed.setIfInBounds i true).getD k false) (i := i) hl0 (by
          have : i < listed.size := by rw [inv.size]; exact hlt
          simp [Array.getD_eq_getD_getElem?, this]) (fun k hki => getD_set_ne false (fun e => hki e.symm)) ops.size hlt
        omega
where
  tailAt {listed : Array Bool} {ρ : Env} {a : Act} {w : World} (inv : DInv ops n fr (L0 ++ Ds.map dob) it N w0 M (Ds.map col ++ ds) listed ρ a w) (hh : ∀ k, k < n → listed.getD k false = true) (fuel : Nat) (hf : fuel + n = ops.size) : wpAnyIn (FW ro) 0 P .any ops Q fuel listed a w := by
    refine dtail hk fuel n (ops.toList.drop n) listed a w hf (Nat.le_refl _) inv.size (fun k _ => ?_) (fun j => by simp) ?_
    · cases hb : listed.getD k false with
      | true => exact (blt_true.2 (inv.head k hb)).symm
      | false =>
        rcases Nat.lt_or_ge k n with h | h
        · rw [hh k h] at hb; cases hb
        · exact (blt_false.2 h).symm
    · refine hfin ρ (relOf_of n fun k hkn _ => inv.rel k (hh k hkn)) a w ⟨Ds, inv.defs, inv.tsize, fun t v hv => ?_, inv.keep, inv.hold.perm ?_⟩
      · rcases frT_get n hv with ⟨k, hkn, hkd, rfl⟩ | ⟨hno, hfr⟩
        · exact inv.s1 k t (hh k hkn) hkd
        · exact inv.s2 t v hfr (fun k hlk => hno k (inv.head k hlk))
      · rw [← resOf_app]
        refine List.Perm.trans ?_ (resOf_perm (it := it) (ts := List.range n) (ρ := ρ) (L := L0 ++ Ds.map dob) n).symm
        rw [fm_congr (p := fun k => listed.getD k false) (p' := fun k => (List.range n).contains k) n (fun k hkn => ⟨by rw [hh k hkn]; symm; simpa using hkn, fun _ => rfl⟩)]
/-- A REGION THAT DRAWS ITS ORDER, walked once in the order of its text: n heads, whose order is open; behind them the tail, each operation of which waits for all before it. -/
theorem sy_draw {id : Nat} {l : List Oper} (n : Nat) (C : List (List Nat)) (hm : P.follows .mixedOrders = true) (hck : drawOk l.toArray n N C = true)
    (h : DH P ro N w0 M ds l.toArray Q C L0 n 0 l (fun _ => fr) []) : Sy P ro N w0 M ds (.region id l.toArray true) Q fr L0 := by
  rintro a w ⟨Ds, hds, hs⟩
  have hk := drawOk_spec hck
  obtain ⟨it, _, h2, h3⟩ := DH.items (P := P) (ro := ro) (N := N) (w0 := w0) (M := M) (ds := ds) (ops := l.toArray) (Q := Q) (C := C) (fr := fr) (L0 := L0) n 0 l (fun _ => .inl fun _ => undef) (fun j => by simp) h
  simp only [Nat.zero_add] at h2 h3
  refine wpIn_region_any hm ?_
  have hg : ∀ i o, i < n → l.toArray[i]? = some o → Good P ro N w0 M ds l.toArray C fr L0 it i o := fun i o hi ho => by
    obtain ⟨o', ho', hgo⟩ := h2 i (Nat.zero_le _) hi
    rw [ho] at ho'; cases ho'; exact hgo
  have hrep : ∀ k, (Array.replicate l.toArray.size false).getD k false = false := fun k => by
    simp only [Array.getD_eq_getD_getElem?, Array.getElem?_replicate]; split <;> rfl
  have no : ∀ k, (Array.replicate l.toArray.size false).getD k false = true → False := fun k h => by rw [hrep] at h; cases h
  refine dall (Ds := Ds) hk (fun i o hi ho => (hg i o hi ho).app _) (by simpa using h3) _ _ (fun _ => (undef, [])) a _ ⟨by simp, fun k hk' => (no k hk').elim, fun k o hk' => (no k hk').elim, hs.size, hds, fun k d hk' => (no k hk').elim,
    fun t v hv _ => hs.agr t v hv, fun k hk' => (no k hk').elim, ⟨hs.keep.os, hs.keep.tape, hs.keep.output, hs.keep.size, hs.keep.block⟩, ?_⟩ ?_
  · rw [fm_none n (fun k _ => hrep k), List.nil_append]
    exact ⟨fun r hr => Res.holds_congr (hs.hold.all r hr) (fun _ _ => rfl), hs.hold.apart, hs.hold.mine⟩
  · have : ∀ m, unl (fun k => (Array.replicate l.toArray.size false).getD k false) m = m := by
      intro m
      induction m with
      | zero => rfl
      | succ m ih => simp only [unl]; rw [hrep, ih]; simp; omega
    exact this _
end sound
section use
variable {ops : Array Oper} {C : List (List Nat)} {L0 : List Res} {Q : Exit → Act → World → Prop} {k i d n : Nat} {o : Oper} {rest : List Oper} {F : Env → Fr} {rs : List (Nat × (Env → Value → List Res → Prop))}
theorem dh_id (h : DH P ro N w0 M ds ops Q C L0 (k + 1) i (o :: rest) F rs) : DH P ro N w0 M ds ops Q C L0 (k + 1) i (o :: rest) F rs := h
/-- The next head has a value that is known. -/
theorem dh_c {u : Value} (hg : ∀ ρ, relOf (cl C i) rs ρ → OpT P ro N w0 M ds o (only (o.looksAt ops) (get (F ρ))) (resOf (cl C i) rs ρ L0) (Det u (resOf (cl C i) rs ρ L0))) (hw : ∀ ρ, wants ops o (only (o.looksAt ops) (get (F ρ))) = some true) (hd : o.dst = some d)
    (h : DH P ro N w0 M ds ops Q C L0 k (i + 1) rest (fun ρ => (d, u) :: F ρ) rs) : DH P ro N w0 M ds ops Q C L0 (k + 1) i (o :: rest) F rs :=
  .inl ⟨fun _ => u, fun _ _ _ => rfl, fun ρ hρ => .inl ⟨hw ρ, hg ρ hρ⟩, by rw [hd]; exact h⟩
theorem dc {u : Value} (hg : ∀ ρ, relOf (cl C i) rs ρ → OpT P ro N w0 M ds o (only (o.looksAt ops) (get (F ρ))) (resOf (cl C i) rs ρ L0) (Det u (resOf (cl C i) rs ρ L0))) (hw : ∀ ρ, wants ops o (only (o.looksAt ops) (get (F ρ))) = some true := by exact fun _ => rfl) (hd : o.dst = some d := by exact rfl)
    (k : DH P ro N w0 M ds ops Q C L0 n (i + 1) rest (fun ρ => (d, u) :: F ρ) rs) : DH P ro N w0 M ds ops Q C L0 (n + 1) i (o :: rest) F rs := dh_c hg hw hd k
/-- The same, the value hanging on what came before. -/
theorem dh_v {u : Env → Value} (hg : ∀ ρ, relOf (cl C i) rs ρ → OpT P ro N w0 M ds o (only (o.looksAt ops) (get (F ρ))) (resOf (cl C i) rs ρ L0) (Det (u ρ) (resOf (cl C i) rs ρ L0))) (hw : ∀ ρ, wants ops o (only (o.looksAt ops) (get (F ρ))) = some true) (hd : o.dst = some d)
    (hl : ∀ ρ ρ' : Env, (∀ k, k ∈ cl C i → ρ k = ρ' k) → u ρ = u ρ') (h : DH P ro N w0 M ds ops Q C L0 k (i + 1) rest (fun ρ => (d, u ρ) :: F ρ) rs) : DH P ro N w0 M ds ops Q C L0 (k + 1) i (o :: rest) F rs :=
  .inl ⟨u, hl, fun ρ hρ => .inl ⟨hw ρ, hg ρ hρ⟩, by rw [hd]; exact h⟩
/-- The next head does not run. -/
theorem dh_skip (hw : ∀ ρ, wants ops o (only (o.looksAt ops) (get (F ρ))) = some false) (hd : o.dst = some d)
    (h : DH P ro N w0 M ds ops Q C L0 k (i + 1) rest (fun ρ => (d, undef) :: F ρ) rs) : DH P ro N w0 M ds ops Q C L0 (k + 1) i (o :: rest) F rs :=
  .inl ⟨fun _ => undef, fun _ _ _ => rfl, fun ρ _ => .inr ⟨hw ρ, rfl, rfl⟩, by rw [hd]; exact h⟩
/-- The next head leaves whatever meets a relation. -/
theorem dh_r {R : Value → List Res → Prop} (hg : ∀ ρ, relOf (cl C i) rs ρ → OpT P ro N w0 M ds o (only (o.looksAt ops) (get (F ρ))) (resOf (cl C i) rs ρ L0) (fun v L' => ∃ Nw, L' = Nw ++ resOf (cl C i) rs ρ L0 ∧ R v Nw)) (hw : ∀ ρ, wants ops o (only (o.looksAt ops) (get (F ρ))) = some true) (hd : o.dst = some d)
    (h : DH P ro N w0 M ds ops Q C L0 k (i + 1) rest (fun ρ => (d, (ρ i).1) :: F ρ) ((i, fun _ => R) :: rs)) : DH P ro N w0 M ds ops Q C L0 (k + 1) i (o :: rest) F rs :=
  .inr ⟨fun _ => R, fun _ _ _ => rfl, fun ρ hρ => .inl ⟨hw ρ, hg ρ hρ⟩, by rw [hd]; exact h⟩
/-- Behind the heads, where every value is known. -/
theorem dh_0n {fr' : Fr} (h : SyL P ro N w0 M ds ops Q rest fr' L0) : DH P ro N w0 M ds ops Q C L0 0 i rest (fun _ => fr') [] := fun _ _ => h
theorem dh_0 (h : ∀ ρ, relOf (List.range i) rs ρ → SyL P ro N w0 M ds ops Q rest (F ρ) (resOf (List.range i) rs ρ L0)) : DH P ro N w0 M ds ops Q C L0 0 i rest F rs := h
end use
end
end Go.Sy
