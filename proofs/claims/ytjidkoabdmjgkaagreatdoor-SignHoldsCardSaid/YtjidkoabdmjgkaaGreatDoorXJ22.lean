/- Residues, sums and differences modulo a number. -/
import Derived.Test.YtjidkoabdmjgkaaGreatDoorXJ20
import Derived.Test.YtjidkoabdmjgkaaGreatDoorXJ21
import Derived.Test.YtjidkoabdmjgkaaGreatDoorXJ18
import Derived.Test.YtjidkoabdmjgkaaGreatDoorXJ07
set_option linter.all false
section
namespace Go.Nt
open Go Go.Sy
def rowN (l : List Nat) : List Value := l.flatMap natC
theorem zcE (l : List Nat) : (rowN l).length = l.length * 16 := by
  induction l with
  | nil => rfl
  | cons x l ih =>
    show (natC x ++ rowN l).length = _
    rw [List.length_append, zg, ih, List.length_cons]; omega
theorem zfm (l m : List Nat) : rowN (l ++ m) = rowN l ++ rowN m := List.flatMap_append
theorem zdi (x : Nat) (l : List Nat) : rowN (x :: l) = natC x ++ rowN l := rfl
theorem ziG {l : List Nat} {i x : Nat} (h : l[i]? = some x) : rowN l = rowN (l.take i) ++ natC x ++ rowN (l.drop (i + 1)) ∧ (rowN (l.take i)).length = i * 16 := by
  obtain ⟨hi, hx⟩ := List.getElem?_eq_some_iff.1 h
  have e : l = l.take i ++ x :: l.drop (i + 1) := by
    rw [← hx, List.getElem_cons_drop, List.take_append_drop]
  refine ⟨?_, by rw [zcE, List.length_take]; omega⟩
  conv => lhs; rw [e]
  rw [zfm, zdi, List.append_assoc]
theorem zbN {l : List Nat} {i x : Nat} (h : l[i]? = some x) : Seg (rowN l) (i * 16) (natC x) := by
  obtain ⟨e, hl⟩ := ziG h
  rw [e, ← hl]; exact Seg.mid
theorem zd5 {l : List Nat} {i : Nat} (x : Nat) (h : i < l.length) : setSeg (rowN l) (i * 16) (natC x) = rowN (l.set i x) := by
  obtain ⟨e, hl⟩ := ziG (List.getElem?_eq_getElem h)
  have e2 : l.set i x = l.take i ++ x :: l.drop (i + 1) := by
    rw [List.set_eq_take_append_cons_drop, if_pos h]
  rw [e2, zfm, zdi]
  unfold setSeg
  rw [zg, e, ← hl]
  have t1 : (rowN (l.take i) ++ natC l[i] ++ rowN (l.drop (i + 1))).take (rowN (l.take i)).length = rowN (l.take i) := by rw [List.append_assoc, List.take_left]
  have t2 : (rowN (l.take i) ++ natC l[i] ++ rowN (l.drop (i + 1))).drop ((rowN (l.take i)).length + 16) = rowN (l.drop (i + 1)) := by
    rw [show (rowN (l.take i)).length + 16 = (rowN (l.take i) ++ natC l[i]).length by rw [List.length_append, zg], List.drop_left]
  rw [t1, t2, List.append_assoc]
theorem zdZ (n : Nat) : List.replicate (n * 16) (Value.int IntKind.u64 0) = rowN (List.replicate n 0) := by
  induction n with
  | zero => rfl
  | succ n ih =>
    rw [List.replicate_succ, zdi, ← ih, show (n + 1) * 16 = 16 + n * 16 by omega, ← List.replicate_append_replicate]
    unfold natC; rw [zc5, List.map_replicate]; rfl
theorem zlk (x : Nat) : rowN [x] = natC x := List.append_nil _
end Go.Nt
namespace Go.Proofs.YtjidkoabdmjgkaaGreatDoor
open Go Go.Sy Go.Nt Go.RowKit
attribute [local irreducible] Sy SyL SyX Sy.Fn callFunc natC rowN
section
variable {ro : Option Nat} {N : Nat} {w0 : World} {M : Nat → Prop} {ds : List Deferred} {g : Nat → Option Value} {L : List Res} {o : Oper} {z z' : Operand}
theorem zao {x : Nat} (ho : o.op = .buildSlice 69 1 #[(0, z)] := by exact rfl) (hz : ev g z = some (natV x) := by exact rfl) :
    OpT Tryz.prog ro N w0 M ds o g L (fun v L' => ∃ b, v = .slice (some ⟨b, 0, none⟩) 1 1 ∧ L' = .blk b 43 (rowN [x]) :: L) :=
  zdy (parts := #[(0, z)]) (vs := [natV x]) (z0 := .int .u64 0) (ty rfl) (zc rfl) (by
    refine .cons (cs := natC x) rfl rfl (zg x) (Nat.le_of_ble_eq_true rfl) ?_
    have := zd5 (l := [0]) (i := 0) x (by decide)
    rw [show [0].set 0 x = [x] from rfl] at this
    rw [← this, show [0] = List.replicate 1 0 from rfl, ← zdZ]
    exact .nil) (by decide) (by decide) ho (by simp [evs, hz])
theorem zbZ {x x' : Nat} (ho : o.op = .buildSlice 69 2 #[(0, z), (1, z')] := by exact rfl) (hz : ev g z = some (natV x) := by exact rfl) (hz' : ev g z' = some (natV x') := by exact rfl) :
    OpT Tryz.prog ro N w0 M ds o g L (fun v L' => ∃ b, v = .slice (some ⟨b, 0, none⟩) 2 2 ∧ L' = .blk b 43 (rowN [x, x']) :: L) :=
  zdy (parts := #[(0, z), (1, z')]) (vs := [natV x, natV x']) (z0 := .int .u64 0) (ty rfl) (zc rfl) (by
    have h0 := zd5 (l := [0, 0]) (i := 0) x (by decide)
    have h1 := zd5 (l := [x, 0]) (i := 1) x' (by simp)
    rw [show [0, 0].set 0 x = [x, 0] from rfl] at h0
    rw [show [x, 0].set 1 x' = [x, x'] from rfl] at h1
    refine .cons (cs := natC x) rfl rfl (zg x) (Nat.le_of_ble_eq_true rfl) ?_
    rw [show List.replicate (2 * _) (Value.int IntKind.u64 0) = rowN [0, 0] from zdZ 2]
    refine .cons (cs := natC x') rfl rfl (zg x') (by
      show 1 * 16 + 16 ≤ (setSeg (rowN [0, 0]) (0 * 16) (natC x)).length
      rw [h0, zcE]; simp) ?_
    show FillTo _ _ (setSeg (setSeg (rowN [0, 0]) (0 * 16) (natC x)) (1 * 16) (natC x')) _
    rw [h0, h1]
    exact .nil) (by decide) (by decide) ho (by simp [evs, hz, hz'])
theorem zls {n : Nat} {k1 k2 : IntKind} {l c : Int} (hn : n ≤ 1000) (hln : l = (n : Int) := by exact rfl) (hcn : c = (n : Int) := by exact rfl) (ho : o.op = .makeSlice 69 z z' := by exact rfl) (hl : ev g z = some (.int k1 l) := by exact rfl) (hc : ev g z' = some (.int k2 c) := by exact rfl) :
    OpT Tryz.prog ro N w0 M ds o g L (fun v L' => ∃ b, v = .slice (some ⟨b, 0, none⟩) n n ∧ L' = .blk b 43 (rowN (List.replicate n 0)) :: L) := by
  have h := zlo (P := Tryz.prog) (ro := ro) (N := N) (w0 := w0) (M := M) (ds := ds) (o := o) (g := g) (L := L) (t := 69) (e := 43) (n := n) (lo := z) (co := z') (z0 := .int .u64 0) (zc rfl) (ty rfl) (show 128 * n ≤ _ by omega) (by unfold maxLen; omega) (show 0 < 16 by decide) hln hcn ho hl hc (ty rfl) rfl
  rw [← zdZ]
  exact h
theorem zan {b off n c j : Nat} {k : IntKind} {i : Int} (ho : o.op = .indexAddr 69 z z' := by exact rfl) (hx : ev g z = some (.slice (some ⟨b, off, none⟩) n c) := by exact rfl) (hz : ev g z' = some (.int k i) := by exact rfl) (hi : i = (j : Int) := by exact rfl) (hj : j < n := by omega) :
    OpT Tryz.prog ro N w0 M ds o g L (Det (.pointer (some ⟨b, off + j * 16, none⟩)) L) :=
  zbJ (ye := _) ho hx hz (ty rfl) rfl (ty rfl) hi hj
end
set_option maxRecDepth 10000
theorem zeW (m n c : Nat) (l : List Nat) (ab ao : Nat) (w : World) (hm : m < 18446744073709551616 ^ 16) (h0 : 0 < m) (hl : l.length = n) (hn : n ≤ 1000) (hall : ∀ x ∈ l, x < 18446744073709551616 ^ 16) (hs : w.rangeAt ab ao (rowN l)) :
    Sy.Fn Tryz.prog 108 [natV m, .slice (some ⟨ab, ao, none⟩) n c] w No (fun v R => ∃ b, v = .slice (some ⟨b, 0, none⟩) n n ∧ R = [.blk b 43 (rowN (l.map (· % m)))]) := by
  refine zq Tryz.func108 rfl Tryz.ntmps108 (by simp) Holds.nil ?_
  have hlm := zg m
  repeat' (first | refine zh ?_ | refine zf ?_ | refine ze ?_ | refine zj ?_ | (refine za (id := 0) ?_; (refine zm ?_; intro _); refine zd ?_) | (refine za (id := 1) ?_; refine zb ?_; refine zA ?_) | fail)
  refine ys (zls (n := n) hn) (k := ?_); rintro _ _ ⟨b10, rfl, rfl⟩
  repeat' (first | refine zh ?_ | refine zf ?_ | refine zu ?_ | refine ze ?_ | refine zj ?_ | (refine za (id := 2) ?_; refine zb ?_; refine zA ?_; refine zb ?_) | (refine zT ?_; first | refine zd ?_ | fail) | fail)
  rename_i b2
  refine zQ (γ := Nat) (fun k => [(2, .pointer (some ⟨b2, 0, none⟩)), (5, .slice (some ⟨b10, 0, none⟩) n n), (11, .slice (some ⟨ab, ao, none⟩) n c), (12, .int .i64 n), (13, .int .i64 k)])
    (fun k => [.blk b10 43 (rowN ((l.map (· % m)).take k ++ List.replicate (n - k) 0)), .blk b2 107 (natC m)])
    (fun k => k ≤ n) (fun k => n - k) 0 (Nat.zero_le _) ?_ ?_ ?_
  · exact Sub.go
  · show SubR [.blk b10 43 (rowN (List.replicate n 0)), .blk b2 107 (natC m)] _
    exact SubR.go
  intro k hk
  rcases Nat.lt_or_ge k n with h | h
  · obtain ⟨x, hx⟩ : ∃ x, l[k]? = some x := ⟨_, List.getElem?_eq_getElem (by omega)⟩
    have hxW := hall x (List.mem_of_getElem? hx)
    have hrow : w.rangeAt ab (ao + k * 16) (natC x) := fun j v hj => by
      have := hs (k * 16 + j) v (zbN hx j v hj)
      rwa [← Nat.add_assoc] at this
    have hd := fun w' => zj7 x m w' hxW hm h0
    have hlx := zg x
    have hlq := zg (x / m)
    have hlr := zg (x % m)
    have hlt : decide ((k : Int) < (n : Int)) = true := decide_eq_true (by omega)
    have hset := zd5 (l := (l.map (· % m)).take k ++ List.replicate (n - k) 0) (i := k) (x % m) (by simp; omega)
    rw [zdM (l.map (· % m)) 0 (x % m) n k (by rw [List.getElem?_map, hx]; rfl) h (by simpa using hl)] at hset
    have hlen := zcE ((l.map (· % m)).take k ++ List.replicate (n - k) 0)
    have hL : ((l.map (· % m)).take k ++ List.replicate (n - k) 0).length = n := by simp; omega
    rw [hL] at hlen
    generalize rowN ((l.map (· % m)).take k ++ List.replicate (n - k) 0) = C at *
    generalize hC' : rowN ((l.map (· % m)).take (k + 1) ++ List.replicate (n - (k + 1)) 0) = C' at *
    generalize x / m = q at *
    generalize x % m = r at *
    repeat' (first | refine zh ?_ | refine zf ?_ | refine zw rfl ?_ | refine zu ?_ | refine zr ?_ | refine ze ?_ | refine zj ?_ | (refine za (id := 3) ?_; refine yv (zS (hr := hlt)) (k := ?_)) | (refine za (id := 4) ?_; refine zb ?_; refine yv (zan (j := k)) (k := ?_); refine yv (zaa (B := natC x) (hv := hrow)) (k := ?_); (refine zm ?_; intro _); refine zd ?_; refine yn (zn (n := x)) (k := ?_)) | (refine za (id := 5) ?_; refine zb ?_; refine zb ?_; refine yv (zl (B := natC x)) (k := ?_); refine zD ?_; refine yv (zl (B := natC m)) (k := ?_); refine yv (zi (hc := fun _ _ _ _ => (hd _))) (k := ?_); refine zb ?_; refine zk ?_; refine zk ?_; refine zk ?_; refine yv (zan (j := k)) (k := ?_); refine yn (zev (B := natC r) (hv := zcA r) (h1 := (zg r).symm)) (k := ?_)) | (refine za (id := 6) ?_; refine zah ?_; refine zb ?_) | fail)
    refine zI (k + 1) ?_ ?_ ?_ ?_
    · show k + 1 ≤ n; omega
    · show n - (k + 1) < n - k; omega
    · exact Sub.go
    · show SubR [.blk b10 43 (rowN ((l.map (· % m)).take (k + 1) ++ List.replicate (n - (k + 1)) 0)), .blk b2 107 (natC m)] _
      rw [hC', ← hset]
      (repeat' (first | exact SubR.nil | (apply SubR.same; with_reducible (focus ((repeat (first | exact Rem.here | apply Rem.there)); done))) | (apply SubR.blk; (focus ((repeat (first | exact Rem.here | apply Rem.there)); done))) | (apply SubR.pick; (focus ((repeat (first | exact Rem.here | apply Rem.there)); done))) | rfl))
      rw [Nat.zero_add]
  · obtain rfl : k = n := by omega
    have hlt : decide ((k : Int) < (k : Int)) = false := decide_eq_false (by omega)
    rw [List.take_of_length_le (by rw [List.length_map]; omega), Nat.sub_self, List.replicate_zero, List.append_nil]
    repeat' (first | refine zh ?_ | refine zf ?_ | refine zt rfl ?_ | refine zp ?_ | refine zE ?_ | refine ze ?_ | refine zj ?_ | (refine za (id := 3) ?_; refine yv (zS (hr := hlt)) (k := ?_)) | (refine za (id := 7) ?_; refine zb ?_; refine zd ?_) | fail)
    exact ret1 rfl (resTmp rfl) (by exact SubR.go) ⟨b10, rfl, rfl⟩
theorem zis {x y : Nat} (h : y ≤ x) : cmpI x y ≥ 0 := by
  unfold cmpI; rw [if_neg (by omega)]; split <;> omega
theorem zcr (m x b : Nat) (w : World) (hm : m < 18446744073709551616 ^ 16) (h0 : 0 < m) (hx : x < 18446744073709551616 ^ 16) (hs : w.rangeAt b 0 (rowN [x])) :
    Sy.Fn Tryz.prog 108 [natV m, .slice (some ⟨b, 0, none⟩) 1 1] w No (fun v R => ∃ b, v = .slice (some ⟨b, 0, none⟩) 1 1 ∧ R = [.blk b 43 (natC (x % m))]) := by
  have h := zeW m 1 1 [x] b 0 w hm h0 rfl (by decide) (fun y hy => by rw [List.mem_singleton.1 hy]; exact hx) hs
  rw [show [x].map (· % m) = [x % m] from rfl, zlk] at h
  exact h
theorem zeF (m x y b : Nat) (w : World) (hm : m < 18446744073709551616 ^ 16) (h0 : 0 < m) (hx : x < 18446744073709551616 ^ 16) (hy : y < 18446744073709551616 ^ 16) (hs : w.rangeAt b 0 (rowN [x, y])) :
    Sy.Fn Tryz.prog 108 [natV m, .slice (some ⟨b, 0, none⟩) 2 2] w No (fun v R => ∃ b, v = .slice (some ⟨b, 0, none⟩) 2 2 ∧ R = [.blk b 43 (rowN [x % m, y % m])]) :=
  zeW m 2 2 [x, y] b 0 w hm h0 rfl (by decide) (fun z hz => by
    rcases List.mem_cons.1 hz with rfl | hz
    · exact hx
    · rw [List.mem_singleton.1 hz]; exact hy) hs
theorem seg2 (x y : Nat) : Seg (rowN [x, y]) (0 * 16) (natC x) ∧ Seg (rowN [x, y]) (1 * 16) (natC y) := ⟨zbN rfl, zbN rfl⟩
theorem zm4 (m : Nat) (w : World) (hm : m < 18446744073709551616 ^ 16) (h0 : 0 < m) :
    Sy.Fn Tryz.prog 140 [natV m] w No (Gives (natV (1 % m))) := by
  refine zq Tryz.func140 rfl Tryz.ntmps140 (by simp) Holds.nil ?_
  have hlm := zg m
  have hl1 := zg 1
  have h1 := fun w' => zd4 1 w' (by decide)
  have hW1 : 1 < 18446744073709551616 ^ 16 := by decide
  have hlr := zg (1 % m)
  have hr := fun w' b (h : w'.rangeAt b 0 (rowN [1])) => zcr m 1 b w' hm h0 hW1 h
  generalize 1 % m = r at *
  repeat' (first | refine zh ?_ | refine zf ?_ | refine zp ?_ | refine ze ?_ | refine zj ?_ | (refine za (id := 0) ?_; (refine zm ?_; intro _); (refine zm ?_; intro _)) | (refine za (id := 1) ?_; refine yv (zi (hc := fun _ _ _ _ => (h1 _))) (k := ?_); refine zb ?_; refine zk ?_; refine zk ?_; (refine zm ?_; intro _); refine yn (zn (n := 1)) (k := ?_); refine zd ?_) | (refine za (id := 2) ?_; refine yv (zl (B := natC m)) (k := ?_); refine yv (zl (B := natC 1)) (k := ?_)) | (refine ys (zao (x := 1)) (k := ?_); rintro _ _ ⟨bb, rfl, rfl⟩) | (refine zT ?_; first | (refine ys (zF (f := 108) (hc := fun w' X hk hh => hr w' _ (zL (hh.has (by exact Has.append Has.here)) Seg.all))) (k := ?_); rintro _ _ ⟨R, rfl, bc, rfl, rfl⟩) | refine yv (zan (j := 0)) (k := ?_) | refine yv (zl (B := natC r)) (k := ?_) | refine yn (zn (n := r)) (k := ?_) | fail) | fail)
  exact ret1 rfl (resCells (B := natC r) rfl (ty rfl) rfl Has.go Seg.all (zg _).symm) SubR.nil ⟨rfl, rfl⟩
theorem zfr (m a b : Nat) (w : World) (hm : m < 18446744073709551616 ^ 16) (ha : a < m) (hb : b < m) :
    Sy.Fn Tryz.prog 110 [natV m, natV a, natV b] w No (Gives (natV ((a + b) % m))) := by
  refine zq Tryz.func110 rfl Tryz.ntmps110 (by simp) Holds.nil ?_
  have hlm := zg m
  have hla := zg a
  have hlb := zg b
  have haW := Nat.lt_trans ha hm
  have hbW := Nat.lt_trans hb hm
  have hz := fun w' => zbq b w' hbW
  rcases Nat.eq_zero_or_pos b with h | h
  · subst h
    rw [Nat.add_zero, Nat.mod_eq_of_lt ha]
    repeat' (first | refine zh ?_ | refine zf ?_ | refine zw rfl ?_ | refine zp ?_ | refine ze ?_ | refine zj ?_ | refine zy ?_ | (refine za (id := 0) ?_; (refine zm ?_; intro _); (refine zm ?_; intro _); (refine zm ?_; intro _); (refine zm ?_; intro _)) | (refine za (id := 1) ?_; refine yv (zl (B := natC 0)) (k := ?_); refine yv (zi (hc := fun _ _ _ _ => (hz _))) (k := ?_)) | (refine za (id := 2) ?_; refine yv (zl (B := natC a)) (k := ?_); refine yn (zn (n := a)) (k := ?_)) | fail)
    exact ret1 rfl (resCells (B := natC a) rfl (ty rfl) rfl Has.go Seg.all (zg _).symm) SubR.nil ⟨rfl, rfl⟩
  · simp only [decide_eq_false (show ¬ b = 0 by omega)] at hz
    have hs := fun w' => zfC m b w' hm hbW
    rw [if_pos (Nat.le_of_lt hb)] at hs
    have hoW : m - b < 18446744073709551616 ^ 16 := Nat.lt_of_le_of_lt (Nat.sub_le _ _) hm
    have hc := fun w' => zbA a (m - b) w' haW hoW
    have hlo := zg (m - b)
    rcases Nat.lt_or_ge a (m - b) with h1 | h1
    · rw [zeQ h1] at hc
      have hd := fun w' => zjW a b w' haW hbW
      rw [if_pos (Nat.lt_trans (show a + b < m by omega) hm)] at hd
      rw [Nat.mod_eq_of_lt (show a + b < m by omega)]
      have hls := zg (a + b)
      generalize m - b = o at *
      generalize a + b = s at *
      repeat' (first | refine zh ?_ | refine zf ?_ | refine zt rfl ?_ | refine zr ?_ | refine zp ?_ | refine ze ?_ | refine zj ?_ | (refine za (id := 0) ?_; (refine zm ?_; intro _); (refine zm ?_; intro _); (refine zm ?_; intro _); (refine zm ?_; intro _)) | (refine za (id := 1) ?_; refine yv (zl (B := natC b)) (k := ?_); refine yv (zi (hc := fun _ _ _ _ => (hz _))) (k := ?_)) | (refine za (id := 3) ?_; refine zD ?_; refine yv (zl (B := natC m)) (k := ?_); refine yv (zl (B := natC b)) (k := ?_); refine yv (zi (hc := fun _ _ _ _ => (hs _))) (k := ?_); refine zb ?_; refine zk ?_; refine zk ?_; (refine zm ?_; intro _); refine yn (zn (n := o)) (k := ?_); refine zd ?_) | (refine za (id := 4) ?_; refine yv (zl (B := natC a)) (k := ?_); refine yv (zl (B := natC o)) (k := ?_); refine yv (zi (hc := fun _ _ _ _ => (hc _))) (k := ?_); refine zaj ?_) | (refine za (id := 7) ?_; refine yv (zl (B := natC a)) (k := ?_); refine yv (zl (B := natC b)) (k := ?_); refine yv (zi (hc := fun _ _ _ _ => (hd _))) (k := ?_); refine zb ?_; refine zk ?_; refine zk ?_; (refine zm ?_; intro _); refine yn (zn (n := s)) (k := ?_); refine zd ?_) | (refine za (id := 8) ?_; refine yv (zl (B := natC s)) (k := ?_); refine yn (zn (n := s)) (k := ?_)) | fail)
      exact ret1 rfl (resCells (B := natC s) rfl (ty rfl) rfl Has.go Seg.all (zg _).symm) SubR.nil ⟨rfl, rfl⟩
    · have hcmp : decide (cmpI a (m - b) ≥ 0) = true := decide_eq_true (zis h1)
      have hd := fun w' => zfC a (m - b) w' haW hoW
      rw [if_pos h1] at hd
      rw [show a + b = a - (m - b) + m by omega, Nat.add_mod_right, Nat.mod_eq_of_lt (show a - (m - b) < m by omega)]
      have hls := zg (a - (m - b))
      generalize cmpI a (m - b) = cz at *
      generalize a - (m - b) = s at *
      generalize m - b = o at *
      repeat' (first | refine zh ?_ | refine zf ?_ | refine zw rfl ?_ | refine zt rfl ?_ | refine zr ?_ | refine zp ?_ | refine ze ?_ | refine zj ?_ | refine zy ?_ | (refine za (id := 0) ?_; (refine zm ?_; intro _); (refine zm ?_; intro _); (refine zm ?_; intro _); (refine zm ?_; intro _)) | (refine za (id := 1) ?_; refine yv (zl (B := natC b)) (k := ?_); refine yv (zi (hc := fun _ _ _ _ => (hz _))) (k := ?_)) | (refine za (id := 3) ?_; refine zD ?_; refine yv (zl (B := natC m)) (k := ?_); refine yv (zl (B := natC b)) (k := ?_); refine yv (zi (hc := fun _ _ _ _ => (hs _))) (k := ?_); refine zb ?_; refine zk ?_; refine zk ?_; (refine zm ?_; intro _); refine yn (zn (n := o)) (k := ?_); refine zd ?_) | (refine za (id := 4) ?_; refine yv (zl (B := natC a)) (k := ?_); refine yv (zl (B := natC o)) (k := ?_); refine yv (zi (hc := fun _ _ _ _ => (hc _))) (k := ?_); refine yv (zas (hr := hcmp)) (k := ?_)) | (refine za (id := 5) ?_; refine yv (zl (B := natC a)) (k := ?_); refine yv (zl (B := natC o)) (k := ?_); refine yv (zi (hc := fun _ _ _ _ => (hd _))) (k := ?_); refine zb ?_; refine zk ?_; refine zk ?_; (refine zm ?_; intro _); refine yn (zn (n := s)) (k := ?_); refine zd ?_) | (refine za (id := 6) ?_; refine yv (zl (B := natC s)) (k := ?_); refine yn (zn (n := s)) (k := ?_)) | fail)
      exact ret1 rfl (resCells (B := natC s) rfl (ty rfl) rfl Has.go Seg.all (zg _).symm) SubR.nil ⟨rfl, rfl⟩
theorem zgP (m a b : Nat) (w : World) (hm : m < 18446744073709551616 ^ 16) (ha : a < m) (hb : b < m) :
    Sy.Fn Tryz.prog 95 [natV m, natV a, natV b] w No (Gives (natV (dm m a b))) := by
  refine zq Tryz.func95 rfl Tryz.ntmps95 (by simp) Holds.nil ?_
  have hlm := zg m
  have hla := zg a
  have hlb := zg b
  have haW := Nat.lt_trans ha hm
  have hbW := Nat.lt_trans hb hm
  have hc := fun w' => zbA a b w' haW hbW
  rcases Nat.lt_or_ge a b with h1 | h1
  · rw [zeQ h1] at hc
    have hs := fun w' => zfC m b w' hm hbW
    rw [if_pos (Nat.le_of_lt hb)] at hs
    have hoW : m - b < 18446744073709551616 ^ 16 := Nat.lt_of_le_of_lt (Nat.sub_le _ _) hm
    have hlo := zg (m - b)
    have hd := fun w' => zjW a (m - b) w' haW hoW
    have hs' : a + (m - b) < m := by omega
    rw [if_pos (Nat.lt_trans hs' hm)] at hd
    have he : dm m a b = a + (m - b) := by unfold dm; rw [Nat.mod_eq_of_lt hb, Nat.mod_eq_of_lt hs']
    rw [he]
    have hls := zg (a + (m - b))
    generalize a + (m - b) = s at *
    generalize m - b = o at *
    repeat' (first | refine zh ?_ | refine zf ?_ | refine zt rfl ?_ | refine zr ?_ | refine zp ?_ | refine ze ?_ | refine zj ?_ | (refine za (id := 0) ?_; (refine zm ?_; intro _); (refine zm ?_; intro _); (refine zm ?_; intro _); (refine zm ?_; intro _)) | (refine za (id := 1) ?_; refine yv (zl (B := natC a)) (k := ?_); refine yv (zl (B := natC b)) (k := ?_); refine yv (zi (hc := fun _ _ _ _ => (hc _))) (k := ?_); refine zaj ?_) | (refine za (id := 4) ?_; refine zD ?_; refine yv (zl (B := natC m)) (k := ?_); refine yv (zl (B := natC b)) (k := ?_); refine yv (zi (hc := fun _ _ _ _ => (hs _))) (k := ?_); refine zb ?_; refine zk ?_; refine zk ?_; (refine zm ?_; intro _); refine yn (zn (n := o)) (k := ?_); refine zd ?_) | (refine za (id := 5) ?_; refine yv (zl (B := natC a)) (k := ?_); refine yv (zl (B := natC o)) (k := ?_); refine yv (zi (hc := fun _ _ _ _ => (hd _))) (k := ?_); refine zb ?_; refine zk ?_; refine zk ?_; (refine zm ?_; intro _); refine yn (zn (n := s)) (k := ?_); refine zd ?_) | (refine za (id := 6) ?_; refine yv (zl (B := natC s)) (k := ?_); refine yn (zn (n := s)) (k := ?_)) | fail)
    exact ret1 rfl (resCells (B := natC s) rfl (ty rfl) rfl Has.go Seg.all (zg _).symm) SubR.nil ⟨rfl, rfl⟩
  · have hcmp : decide (cmpI a b ≥ 0) = true := decide_eq_true (zis h1)
    have hd := fun w' => zfC a b w' haW hbW
    rw [if_pos h1] at hd
    have he : dm m a b = a - b := by
      unfold dm; rw [Nat.mod_eq_of_lt hb, show a + (m - b) = a - b + m by omega, Nat.add_mod_right, Nat.mod_eq_of_lt (by omega)]
    rw [he]
    have hls := zg (a - b)
    generalize cmpI a b = cz at *
    generalize a - b = s at *
    repeat' (first | refine zh ?_ | refine zf ?_ | refine zw rfl ?_ | refine zp ?_ | refine ze ?_ | refine zj ?_ | refine zy ?_ | (refine za (id := 0) ?_; (refine zm ?_; intro _); (refine zm ?_; intro _); (refine zm ?_; intro _); (refine zm ?_; intro _)) | (refine za (id := 1) ?_; refine yv (zl (B := natC a)) (k := ?_); refine yv (zl (B := natC b)) (k := ?_); refine yv (zi (hc := fun _ _ _ _ => (hc _))) (k := ?_); refine yv (zas (hr := hcmp)) (k := ?_)) | (refine za (id := 2) ?_; refine yv (zl (B := natC a)) (k := ?_); refine yv (zl (B := natC b)) (k := ?_); refine yv (zi (hc := fun _ _ _ _ => (hd _))) (k := ?_); refine zb ?_; refine zk ?_; refine zk ?_; (refine zm ?_; intro _); refine yn (zn (n := s)) (k := ?_); refine zd ?_) | (refine za (id := 3) ?_; refine yv (zl (B := natC s)) (k := ?_); refine yn (zn (n := s)) (k := ?_)) | fail)
    exact ret1 rfl (resCells (B := natC s) rfl (ty rfl) rfl Has.go Seg.all (zg _).symm) SubR.nil ⟨rfl, rfl⟩
theorem zjn (m a : Nat) (w : World) (hm : m < 18446744073709551616 ^ 16) (ha : a < m) :
    Sy.Fn Tryz.prog 135 [natV m, natV a] w No (Gives (natV ((a + a) % m))) := by
  refine zq Tryz.func135 rfl Tryz.ntmps135 (by simp) Holds.nil ?_
  have hlm := zg m
  have hla := zg a
  have hs := fun w' => zfr m a a w' hm ha ha
  have hls := zg ((a + a) % m)
  generalize (a + a) % m = s at *
  repeat' (first | refine zh ?_ | refine zf ?_ | refine zp ?_ | refine ze ?_ | refine zj ?_ | (refine za (id := 0) ?_; (refine zm ?_; intro _); (refine zm ?_; intro _); (refine zm ?_; intro _)) | (refine za (id := 1) ?_; refine yv (zl (B := natC m)) (k := ?_); refine yv (zl (B := natC a)) (k := ?_); refine yv (zl (B := natC a)) (k := ?_); refine yv (zi (hc := fun _ _ _ _ => (hs _))) (k := ?_); refine yn (zn (n := s)) (k := ?_)) | fail)
  exact ret1 rfl (resCells (B := natC s) rfl (ty rfl) rfl Has.go Seg.all (zg _).symm) SubR.nil ⟨rfl, rfl⟩
end Go.Proofs.YtjidkoabdmjgkaaGreatDoor
end
