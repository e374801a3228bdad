/- The logic of walks: append(s, make([]T, n)...), which the translation hands over as a number. -/
import Derived.Test.YtjidkoabdmjgkaaGreatDoorXJ02
import Derived.Lib.AppendZerosOnto
set_option linter.all false
section
namespace Go.Sy
open Go
theorem zd9 (z0 : Value) (n : Nat) : (Builtin.zeroCells #[z0] n).toList = List.replicate n z0 := by
  unfold Builtin.zeroCells
  apply List.ext_getElem?
  intro i
  simp [List.getElem?_replicate]
  by_cases h : i < n
  · simp [h, Nat.mod_one]
  · simp [h]
section
variable {P : Program}
theorem ze8 (w : World) {t tn ty e bytes : Nat} {i : TypeInfo} {zv z0 : Value} {kq kn : IntKind} (hd : P.underlying t = some (.slice e)) (htn : P.underlying tn = some (.int kn)) (hi : P.info? e = some i) (hz : i.zero = some zv) (hsz : i.size = 1) (hby : i.bytes = bytes) (hzc : zv.cells = #[z0]) (hone : z0.oneCell' = true)
    {v : Value} {k m : Nat} {xs : List Value} (hown : w.ownsRow 0 e 1 v k xs) (b1 : k + m ≤ maxLen) (b2 : (k + m) * bytes ≤ 140737488355328) :
    ∃ v' w', (Builtin.append_ #[t, tn] ty #[v, .int kq (m : Int)]).run P w = .ok v' w' ∧ w'.ownsRow 0 e 1 v' (k + m) (xs ++ List.replicate m z0) ∧ w.grownBy w' v.ownBlock ∧ ∀ b, v'.ownBlock = some b → v.ownBlock = some b ∨ w.heap.size ≤ b := by
  subst hby
  have hsmall : k + m ≤ 9223372036854775807 := by simp only [maxLen] at b1; omega
  have hlen : (xs ++ List.replicate m z0).length = (k + m) * 1 := by rw [List.length_append, hown.1, List.length_replicate]; omega
  have hmb : m * i.bytes ≤ 281474976710656 := by have : m * i.bytes ≤ (k + m) * i.bytes := Nat.mul_le_mul_right _ (by omega); omega
  have hw : IntKind.i64.wrap (m : Int) = m := by rw [IntKind.wrap_i64]; omega
  have hneg : ¬ ((m : Int) < 0) := by omega
  have h48i : ¬ (281474976710656 < (m : Int) * (i.bytes : Int)) := by rw [← Int.natCast_mul]; omega
  have grown : ∀ (old : Nat), old < k + m → ∀ (row : Option Nat),
      (w.drew.alloc (.cells (xs.toArray ++ Builtin.zeroCells zv.cells m ++ Builtin.zeroCells zv.cells (grownCap w (k + m) old e - (k + m))) e)).ownsRow 0 e 1
        (.slice (some ⟨w.heap.size, 0, none⟩) (k + m) (grownCap w (k + m) old e)) (k + m) (xs ++ List.replicate m z0) ∧
      w.grownBy (w.drew.alloc (.cells (xs.toArray ++ Builtin.zeroCells zv.cells m ++ Builtin.zeroCells zv.cells (grownCap w (k + m) old e - (k + m))) e)) row := by
    intro old ho row
    have hge := grownCap_ge w (k + m) old e
    have hcm : grownCap w (k + m) old e ≤ maxLen := grownCap_le_maxLen w (k + m) old e b1
    refine ⟨⟨hlen, .inr ⟨w.heap.size, _, _, rfl, Nat.zero_le _, heap_alloc_new w.drew _, hge, hcm, ?_, ?_⟩⟩, ⟨rfl, rfl, rfl, by simp, fun j hj _ => heap_alloc_old w.drew _ hj⟩⟩
    · simp only [Array.size_append, List.size_toArray, size_zeroCells, hzc, hown.1]
      simp; omega
    · simp only [Array.toList_append, hzc, zd9]
      rw [← hlen]
      exact List.take_left
  rcases hown.2 with ⟨rfl, rfl⟩ | ⟨g, cap, cur, rfl, hbg, hg, hnc, hcm, hcs, htake⟩
  · have hx : xs = [] := List.eq_nil_of_length_eq_zero (by simpa using hown.1)
    subst hx
    by_cases hm : m = 0
    · subst hm
      refine ⟨.slice none 0 0, w, ?_, World.ownsRow_nil w 0 e 1, ⟨rfl, rfl, rfl, Nat.le_refl _, fun _ _ _ => rfl⟩, fun b hb => .inl hb⟩
      simp [Builtin.append_, run_underlying hd, run_underlying htn, sizeOf, typeInfo, hi, asInt, asIntOf, IntKind.wrap_i64]
    · have hr := Lib.run_append_grow_zeros (P := P) w t tn ty e i zv kq kn hd htn hi hz none 0 0 [] (by simp [Builtin.firstCells]) m (by omega) (by omega) (by omega) (by omega) hmb (growslice_fits (by omega) b2)
      obtain ⟨h1, h2⟩ := grown 0 (by omega) (Value.ownBlock (.slice none 0 0))
      exact ⟨_, _, hr, h1, h2, fun b hb => .inr (by simp [Value.ownBlock] at hb; omega)⟩
  · by_cases hroom : k + m ≤ cap
    · have hfit : k + m ≤ cur.size := by rw [hcs]; omega
      have hst := run_storeCells_at P g (k * 1) e (List.replicate m z0) 0 cur w hg (by simp; omega) (by intro u hu; rw [List.eq_of_mem_replicate hu]; exact hone)
      simp only [Nat.add_zero] at hst
      refine ⟨.slice (some ⟨g, 0, none⟩) (k + m) cap, w.setRow g (cur.toList.take (k * 1) ++ List.replicate m z0 ++ cur.toList.drop (k * 1 + (List.replicate m z0).length)).toArray, ?_, ⟨hlen, .inr ⟨g, cap, _, rfl, hbg, setRow_heap w g cur _ e _ hg, hroom, hcm, ?_, ?_⟩⟩, ⟨rfl, rfl, rfl, by simp, fun j _ hj => setRow_other w g j _ (fun e => hj (by simp [Value.ownBlock, e]))⟩, fun b hb => .inl hb⟩
      · by_cases hm : m = 0
        · subst hm
          simp only [List.replicate_zero, List.append_nil, List.length_nil, Nat.add_zero, List.take_append_drop] at hst ⊢
          simp [Builtin.append_, run_underlying hd, run_underlying htn, sizeOf, typeInfo, hi, asInt, asIntOf, IntKind.wrap_i64, hnc, hsz, Addr.add_lit]
          have hst' : Sem.run P (storeCells { block := g, off := k } []) w = Result.ok () (w.setRow g cur) := by simpa using hst
          rw [hst']; rfl
        · have hz' : (Builtin.zeroCells zv.cells m).toList = List.replicate m z0 := by rw [hzc, zd9]
          have hns : ¬ (m * i.size = 0) := by rw [hsz]; omega
          simp [Builtin.append_, run_underlying hd, run_underlying htn, sizeOf, typeInfo, zeroValue, hi, hz, asInt, asIntOf, hw, hneg, h48i, hroom, hns, Addr.add_lit, hz', hsz, hm]
          have hst' : Sem.run P (storeCells { block := g, off := k } (List.replicate m z0)) w = Result.ok () (w.setRow g (List.take k cur.toList ++ (List.replicate m z0 ++ List.drop (k + m) cur.toList)).toArray) := by simpa using hst
          rw [hst']; rfl
      · simp only [List.size_toArray, List.length_append, List.length_take, List.length_drop, List.length_replicate, Array.length_toList]
        omega
      · rw [htake, ← hlen]
        exact List.take_left
    · have holds : ∀ j u, xs[j]? = some u → w.cell? ((⟨g, 0, none⟩ : Addr).add j) = some u := hown.cells (g := g) rfl
      have hf := run_firstCells_some (P := P) w.drew i.size k ⟨g, 0, none⟩ k cap xs (by rw [hsz]; exact hown.1) holds
      have hr := Lib.run_append_grow_zeros (P := P) w t tn ty e i zv kq kn hd htn hi hz (some ⟨g, 0, none⟩) k cap xs hf m (by omega) (by omega) (by omega) (by omega) hmb (growslice_fits (by omega) b2)
      obtain ⟨h1, h2⟩ := grown cap (by omega) (Value.ownBlock (.slice (some ⟨g, 0, none⟩) k cap))
      exact ⟨_, _, hr, h1, h2, fun b hb => .inr (by simp [Value.ownBlock] at hb; omega)⟩
end
section
variable {P : Program} {ro : Option Nat} {N : Nat} {w0 : World} {M : Nat → Prop} {ds : List Deferred} {g : Nat → Option Value} {L : List Res} {o : Oper} {t tn : TypeId} {y ye : Ty}
theorem zfF {k m e : Nat} {v z0 : Value} {kq kn : IntKind} {xs : List Value} {L1 : List Res} {xo so : Operand} {l : Int} (hm : l = (m : Int)) (hL : Rem L (.row v e 1 k xs) L1) (ho : o.op = .call { callee := .builtin .append, args := #[so, xo], argTypes := #[t, tn] } := by exact rfl)
    (hs : ev g so = some v := by exact rfl) (hx : ev g xo = some (.int kq l) := by exact rfl) (ht : tyOf P t = some y := by exact ty rfl) (hy : y.desc = .slice e := by exact rfl) (htn : P.underlying tn = some (.int kn) := by exact tyI rfl rfl) (he : tyOf P e = some ye := by exact ty rfl) (hsz : ye.size = 1 := by exact rfl) (hz : zeroC P e = some [z0] := by exact zc rfl) (hone : z0.oneCell' = true := by exact rfl) (b1 : k + m ≤ maxLen := by first | (unfold maxLen; omega) | fail) (b2 : (k + m) * ye.bytes ≤ 140737488355328 := by first | (dsimp only; omega) | omega | fail) {km : Nat} {ys : List Value} (hkm : k + m = km := by exact rfl) (hys : xs ++ List.replicate m z0 = ys := by exact rfl) :
    OpT P ro N w0 M ds o g L (fun v' L' => L' = .row v' e 1 km ys :: L1 ∧ ∃ a c, v' = .slice a km c) := by
  subst hkm; subst hys; subst hm
  refine OpT.run (by rw [ho]; rfl) fun a w X hst => ?_
  obtain ⟨d, i', hd, hi', hs', _⟩ := zO ht
  rw [hy] at hs'
  have := zat hs'; subst this
  obtain ⟨de, ie, hde, hie, _, hez, heb, _⟩ := zO he
  unfold zeroC at hz
  rw [hie] at hz
  simp only [Option.bind_some, Option.map_eq_some_iff] at hz
  obtain ⟨zv, hzv, hze⟩ := hz
  have hp := hst.perm (hL.append (X := X)).perm
  have hrow : w.ownsRow 0 e 1 v k xs := hp.hold.all _ List.mem_cons_self
  have hmine := fun b hb => hp.hold.mine (.row v e 1 k xs) List.mem_cons_self b hb
  obtain ⟨v', w', hrun, hown, hgr, hnew⟩ := ze8 (P := P) (ty := o.type) (kq := kq) w hd htn hie hzv (hez.trans hsz) heb (Array.toList_inj.1 hze) hone hrow b1 b2
  have hkw : Keep (fun b => v.ownBlock = some b) w w' := Keep.grown hgr
  have hkeep : Keep M w0 w' := hst.keep.trans hkw (fun b hb => hmine b hb)
  refine ⟨.value v', v', w', _, ?_, .inl rfl, ⟨rfl, ?_⟩, hkeep, ?_⟩
  · have e1 : #[so, xo].map a.eval = #[v, .int kq (m : Int)] := by simp [hst.agr.eval hs, hst.agr.eval hx]
    simp only [execOp, ho, resolve, invoke, builtin, e1, Sem.run_bind, Sem.run_pure, Result.andThen_ok, hrun]
  · obtain ⟨_, ⟨h2, h3⟩ | ⟨b, c, cur, hv, _⟩⟩ := hown
    · exact ⟨none, 0, by rw [h2, h3]⟩
    · exact ⟨_, c, hv⟩
  · have ht := hp.hold.tail
    refine Holds.cons (L := L1 ++ X) (ht.keep hkw (fun r hr' b hb hb' => (List.pairwise_cons.1 hp.hold.apart).1 r hr' b hb' hb)) hown (fun r hr' b hb hb' => ?_) (fun b hb => ?_)
    · rcases hnew b hb with h | h
      · exact (List.pairwise_cons.1 hp.hold.apart).1 r hr' b h hb'
      · have := Res.own_lt (ht.all r hr') hb'; omega
    · rcases hnew b hb with h | h
      · exact hmine b h
      · exact .inl (Nat.le_trans hst.keep.size h)
end
end Go.Sy
end
