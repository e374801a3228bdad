/- The logic of walks: conversions to bytes, comparisons of arrays. -/
import Derived.Test.YtcahnkdnhejkkaaDoorSyMore
import Derived.Lib.SlBytesConst
import Derived.Lib.ConvBytes
import Derived.Stop.BytesEq
import Derived.KernelRfl
set_option linter.all false
namespace Go.Sy
open Go Go.Wd
theorem cell_v8 : Extern.Stop.cell = v8 := rfl
section
variable {P : Program} {ro : Option Nat} {N : Nat} {w0 : World} {M : Nat → Prop} {ds : List Deferred} {g : Nat → Option Value} {L : List Res} {o : Oper}
variable {t t' : TypeId} {x z : Operand} {y ye : Ty}
theorem eqBytes_run {n e : Nat} (ht : tyOf P t = some y) (hy : y.desc = .array n e) (he : tyOf P e = some ye) (hye : ye.desc = .int .u8) (h1 : ye.size = 1) (a b : List UInt8) (ha : a.length = n) (hb : b.length = n) (w : World) :
    (Op.equal t (.agg (a.map v8).toArray) (.agg (b.map v8).toArray)).run P w = .ok (a == b) w := by
  obtain ⟨d, i', hd, hi', hs', _⟩ := tyOf_spec ht
  rw [hy] at hs'
  have := slim_array hs'; subst this
  obtain ⟨de, _, hde, _, hse, _⟩ := tyOf_spec he
  rw [hye] at hse
  have := slim_int hse; subst this
  have := run_equalIn_bytes (P := P) w 9998 t e n hd hde (fun w => by rw [run_sizeOf_ty he, h1]) a b ha hb
  exact this
theorem op_eqArr {n e : Nat} {a b : List UInt8} {r : Bool} (ho : o.op = .binOp .eql t x z t' := by exact rfl) (hx : ev g x = some (.agg (a.map v8).toArray) := by exact rfl) (hz : ev g z = some (.agg (b.map v8).toArray) := by exact rfl) (ht : tyOf P t = some y := by exact ty rfl) (hy : y.desc = .array n e := by exact rfl) (he : tyOf P e = some ye := by exact ty rfl) (hye : ye.desc = .int .u8 := by exact rfl) (h1 : ye.size = 1 := by exact rfl)
    (ha : a.length = n := by first | assumption | rfl) (hb : b.length = n := by first | assumption | rfl) (hg : P.eqGuardType P.depth t = false := by kernel_rfl) (hr : decide (a = b) = r := by first | exact decide_eq_true (by first | rfl | assumption) | exact decide_eq_false (by assumption) | fail) : OpT P ro N w0 M ds o g L (Det (.bool r) L) :=
  OpT.still (by rw [ho]; rfl) fun ac w X hs => by
    have he : (Op.equal t (.agg (a.map v8).toArray) (.agg (b.map v8).toArray)).run P w = .ok r w := by
      rw [eqBytes_run ht hy he hye h1 a b ha hb]
      congr 1
      rw [← hr]; by_cases h : a = b <;> simp [h]
    simp [execOp, ho, hs.agr.eval hx, hs.agr.eval hz, eqGuard, binOp, he, hg]
theorem op_neArr {n e : Nat} {a b : List UInt8} {r : Bool} (ho : o.op = .binOp .neq t x z t' := by exact rfl) (hx : ev g x = some (.agg (a.map v8).toArray) := by exact rfl) (hz : ev g z = some (.agg (b.map v8).toArray) := by exact rfl) (ht : tyOf P t = some y := by exact ty rfl) (hy : y.desc = .array n e := by exact rfl) (he : tyOf P e = some ye := by exact ty rfl) (hye : ye.desc = .int .u8 := by exact rfl) (h1 : ye.size = 1 := by exact rfl)
    (ha : a.length = n := by first | assumption | rfl) (hb : b.length = n := by first | assumption | rfl) (hg : P.eqGuardType P.depth t = false := by kernel_rfl) (hr : decide (a ≠ b) = r := by first | exact decide_eq_true (by assumption) | exact decide_eq_false (by first | exact fun h => h rfl | assumption) | fail) : OpT P ro N w0 M ds o g L (Det (.bool r) L) :=
  OpT.still (by rw [ho]; rfl) fun ac w X hs => by
    have he : (Op.equal t (.agg (a.map v8).toArray) (.agg (b.map v8).toArray)).run P w = .ok (!r) w := by
      rw [eqBytes_run ht hy he hye h1 a b ha hb]
      congr 1
      rw [← hr]; by_cases h : a = b <;> simp [h]
    simp [execOp, ho, hs.agr.eval hx, hs.agr.eval hz, eqGuard, binOp, he, hg]

/-! ### Rows with the mark of a conversion -/
theorem freeze_at {w : World} {b E : Nat} {C : Array Value} (h : w.heap[b]? = some (.cells C E (0, 0))) (k : Nat) : (w.freeze ⟨b, k, none⟩ 1).heap[b]? = some (.cells C E (k, k + 1)) := by
  have hlt := (Array.getElem?_eq_some_iff.1 h).1
  have he := (Array.getElem?_eq_some_iff.1 h).2
  unfold World.freeze
  rw [if_neg (by decide)]
  simp [Array.getElem?_modify, h]
theorem Keep.freeze (w : World) (b k : Nat) : Keep (· = b) w (w.freeze ⟨b, k, none⟩ 1) := by
  unfold World.freeze
  rw [if_neg (by decide)]
  refine ⟨rfl, rfl, rfl, by simp, fun j hj hn => ?_⟩
  show (w.heap.modify b _)[j]? = _
  rw [Array.getElem?_modify, if_neg (fun e => hn e.symm)]
/-- A conversion of a slice to its own type: the row is marked. -/
theorem op_convSame {e n c b : Nat} {C : List Value} {L' : List Res} (ho : o.op = .convert t t x := by exact rfl) (hx : ev g x = some (.slice (some ⟨b, 0, none⟩) n c) := by exact rfl) (ht : tyOf P t = some y := by exact ty rfl) (hy : y.desc = .slice e := by exact rfl) (he : tyOf P e = some ye := by exact ty rfl) (hye : ye.desc = .int .u8 := by exact rfl)
    (hL : Upd L (.blk b e C) (.obj b (.cells C.toArray e (C.length, C.length + 1))) L' := by repeat (first | exact Upd.here | apply Upd.there)) :
    OpT P ro N w0 M ds o g L (Det (.slice (some ⟨b, 0, none⟩) n c) L') :=
  OpT.run (by rw [ho]; rfl) fun a w X hs => by
    obtain ⟨d, i', hd, hi', hs', _⟩ := tyOf_spec ht
    rw [hy] at hs'
    have := slim_slice hs'; subst this
    obtain ⟨de, _, hde, _, hse, _⟩ := tyOf_spec he
    rw [hye] at hse
    have := slim_int hse; subst this
    have hb : w.heap[b]? = some (.cells C.toArray e (0, 0)) := hs.hold.has (r := .blk b e C) (by obtain ⟨A, B, e, _⟩ := hL; subst e; simp [Has])
    have hm := hs.hold.mine (.blk b e C) (by obtain ⟨A, B, e, _⟩ := hL; subst e; simp) b rfl
    have hsh : w.shape? b = some (e, C.length) := by simp [World.shape?, hb]
    refine ⟨_, _, w.freeze ⟨b, C.length, none⟩ 1, L', ?_, .inl rfl, ⟨rfl, rfl⟩, keep_mine hs.keep (Keep.freeze w b _) hm, ?_⟩
    · simp [execOp, ho, hs.agr.eval hx, convert, run_underlying hd, run_underlying hde, markStringish, hsh]
    · exact hs.hold.upd hL.append (fun b' hb' => .inl hb') (freeze_at hb _) ((Keep.freeze w b _).mono (fun x hx => by subst hx; exact rfl))
theorem Reads.obj {b off E : Nat} {C B : List Value} {fz : Nat × Nat} (hL : Has L (.obj b (.cells C.toArray E fz))) (hs : Seg C off B) : Reads w0 M L b off B := fun w _ _ hh j v hj => by
  have h : w.heap[b]? = some (.cells C.toArray E fz) := hh.has (Has.append hL)
  have := hs j v hj
  simpa [World.cell?, h] using this
theorem op_toStrD {e n c : Nat} {a0 : Option Addr} {l : List UInt8} (ho : o.op = .convert t t' x := by exact rfl) (hx : ev g x = some (.slice a0 n c) := by exact rfl) (ht : tyOf P t = some y := by exact ty rfl) (hy : y.desc = .slice e := by exact rfl) (he : tyOf P e = some ye := by exact ty rfl) (hye : ye.desc = .int .u8 := by exact rfl) {y' : Ty} (ht' : tyOf P t' = some y' := by exact ty rfl) (hy' : y'.desc = .string := by exact rfl)
    (hr : Rd w0 M L a0 (l.map v8) := by first | exact Rd.of (Reads.blk (by first | exact Has.here | exact Has.there Has.here | exact Has.there (Has.there Has.here) | exact Has.there (Has.there (Has.there Has.here)) | exact Has.there (Has.there (Has.there (Has.there Has.here)))) Seg.all) | exact Rd.row (by first | exact Has.here | exact Has.there Has.here | exact Has.there (Has.there Has.here) | exact Has.there (Has.there (Has.there Has.here)) | exact Has.there (Has.there (Has.there (Has.there Has.here)))) | exact Rd.old (by assumption) (fun _ _ h => h) | assumption) (hn : l.length = n := by first | rfl | assumption | (simp only [List.length_map, List.length_set, List.length_replicate, List.length_append]; omega) | (simp; omega)) : OpT P ro N w0 M ds o g L (Det (.string (str l)) L) := op_toStr ho hx ht hy he hye ht' hy' hr hn
theorem SyL.weaken {ops : Array Oper} {Q : Exit → Act → World → Prop} {rest : List Oper} {fr fr' : Fr} {L' : List Res} (h : SyL P ro N w0 M ds ops Q rest fr' L') (hf : Sub fr' fr) (hL : SubR L' L) : SyL P ro N w0 M ds ops Q rest fr L := fun a w hs => h a w (hs.weaken hf hL)
section
variable {ops : Array Oper} {C : List (List Nat)} {L0 : List Res} {Q : Exit → Act → World → Prop} {k i d : Nat} {rest : List Oper} {F : Env → Fr} {rs : List (Nat × (Env → Value → List Res → Prop))}
/-- A head that lays a block. -/
theorem dh_new {V : Nat → Value} {G : Nat → Res} (hg : ∀ ρ, relOf (cl C i) rs ρ → OpT P ro N w0 M ds o (only (o.looksAt ops) (get (F ρ))) (resOf (cl C i) rs ρ L0) (fun v L' => ∃ b, v = V b ∧ L' = G b :: resOf (cl C i) rs ρ L0)) (hw : ∀ ρ, wants ops o (only (o.looksAt ops) (get (F ρ))) = some true := by exact fun _ => rfl) (hd : o.dst = some d := by exact rfl)
    (h : DH P ro N w0 M ds ops Q C L0 k (i + 1) rest (fun ρ => (d, (ρ i).1) :: F ρ) ((i, fun _ v Nw => ∃ b, v = V b ∧ Nw = [G b]) :: rs)) : DH P ro N w0 M ds ops Q C L0 (k + 1) i (o :: rest) F rs :=
  dh_r (R := fun v Nw => ∃ b, v = V b ∧ Nw = [G b]) (fun ρ hρ => (hg ρ hρ).mono fun _ _ ⟨b, e1, e2⟩ => ⟨[G b], e2, b, e1, rfl⟩) hw hd h
/-- The address of an element of what a head has laid. -/
def slicePtr (v : Value) (i : Nat) : Value := match v with
  | .slice (some ad) _ _ => .pointer (some ⟨ad.block, ad.off + i, none⟩)
  | _ => undef
end
theorem Holds.one {B0 : Nat} {w : World} {b T : Nat} {C : List Value} {X : List Res} (hh : Holds B0 M (L ++ X) w) (hL : Has L (.blk b T C)) : ∀ x, x = b → B0 ≤ x ∨ M x := fun x hx => by subst hx; exact hh.mine _ (Has.append hL) x rfl
/-- A call that turns one block, its cells behind it known by a relation. -/
theorem op_callR {fo : Operand} {args : Array Operand} {tys : Array TypeId} {f b T : Nat} {C : List Value} {Rel : List Value → Prop} {vs cap : List Value} {v : Value} {U : List Value → List Res}
    (hc : ∀ w X, Keep M w0 w → Holds w0.heap.size M (L ++ X) w → Fn P f (vs ++ cap) w (fun x => x = b) (fun v' R => v' = v ∧ ∃ C', Rel C' ∧ R = [.blk b T C']))
    (ho : o.op = .call { callee := .value fo, args := args, argTypes := tys } := by exact rfl) (hf : ev g fo = some (.func (.func f) #[] cap.toArray) := by exact rfl) (ha : evs g args.toList = some vs := by exact rfl)
    (he : ∀ args w, (callFunc f args).run P w = .ok (.enter f args) w := by exact en rfl)
    (hL : ∀ C', Upd L (.blk b T C) (.blk b T C') (U C') := by first | exact fun _ => Upd.here | exact fun _ => Upd.there Upd.here | exact fun _ => Upd.there (Upd.there Upd.here) | exact fun _ => Upd.there (Upd.there (Upd.there Upd.here))) : OpT P ro N w0 M ds o g L (fun v' L' => v' = v ∧ ∃ C', Rel C' ∧ L' = U C') := by
  obtain ⟨A, B, e1, -⟩ := hL C
  have hperm : RemL L [.blk b T C] (A ++ B) := by subst e1; exact List.perm_middle
  have h := op_call (P := P) (ro := ro) (N := N) (w0 := w0) (M := M) (ds := ds) (g := g) (C := [.blk b T C]) (L1 := A ++ B) (o := o) ho hf ha he hperm (fun x hx => ⟨_, List.mem_cons_self, hx.symm⟩) hc
  intro a w X next Q hs hn
  refine h a w X next Q hs fun v' w' L'' hp hk hh => ?_
  obtain ⟨R, rfl, rfl, C', hC', rfl⟩ := hp
  refine hn _ w' _ ⟨rfl, C', hC', rfl⟩ hk (hh.perm (List.Perm.append_right X ?_))
  have h2 := (hL C').rem
  obtain ⟨L1, p1, p2⟩ := h2
  have h3 : L1.Perm (A ++ B) := by
    have : (Res.blk b T C :: L1).Perm (Res.blk b T C :: (A ++ B)) := p1.symm.trans hperm
    exact this.cons_inv
  exact ((List.Perm.cons _ h3).symm).trans p2.symm
theorem Row.nil {B0 : Nat} {w : World} {E n c s : Nat} {a : Option Addr} {xs : List Value} {L : List Res} (hh : Holds B0 M L w) (hL : Has L (.row (.slice a n c) E s n xs)) : a = none → c = 0 ∧ n = 0 := by
  have hrow : w.ownsRow 0 E s (.slice a n c) n xs := hh.has hL
  obtain ⟨h1, ⟨hv, h2⟩ | ⟨b, cc, cur, hv, _, h3, h4, h5, h6, h7⟩⟩ := hrow
  · cases hv; exact fun _ => ⟨rfl, rfl⟩
  · cases hv; intro h; cases h
theorem Rd.mov {a : Option Addr} {B : List Value} (h : Rd w0 M L a B) {l m : Nat} (hm : B.length ≤ m) : Rd w0 M L (movA a l m 1) (B.drop l) := fun w X hk hh => (h w X hk hh).mov hm
/-- A slice of one's own, opened where it has elements. -/
theorem sy_openOr {c : Code} {Q : Exit → Act → World → Prop} {fr : Fr} {L1 : List Res} {a : Option Addr} {E s n cp : Nat} {xs : List Value} (hr : Rem L (.row (.slice a n cp) E s n xs) L1)
    (h : ∀ r, (0 < n → ∃ b J, a = some ⟨b, 0, none⟩ ∧ r = .blk b E (xs ++ J)) → Sy P ro N w0 M ds c Q fr (r :: L1)) : Sy P ro N w0 M ds c Q fr L := by
  by_cases hn : 0 < n
  · refine sy_open hr hn fun b J ha _ _ _ _ => ?_
    exact h _ fun _ => ⟨b, J, ha, rfl⟩
  · refine Sy.weaken (h (.row (.slice a n cp) E s n xs) fun h => absurd h hn) Sub.refl ⟨[], ?_⟩
    rw [List.append_nil]; exact hr.perm
theorem Row.cap {B0 : Nat} {w : World} {E n c s : Nat} {a : Option Addr} {xs : List Value} {L : List Res} (hh : Holds B0 M L w) (hL : Has L (.row (.slice a n c) E s n xs)) : n ≤ c := by
  have hrow : w.ownsRow 0 E s (.slice a n c) n xs := hh.has hL
  obtain ⟨h1, ⟨hv, h2⟩ | ⟨b, cc, cur, hv, _, h3, h4, h5, h6, h7⟩⟩ := hrow
  · omega
  · cases hv; exact h4
end
end Go.Sy
