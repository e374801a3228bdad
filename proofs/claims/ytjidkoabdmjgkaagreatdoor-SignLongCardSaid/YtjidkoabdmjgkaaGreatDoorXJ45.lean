/- Layer sign, walked: the parts of a signature. -/
import Derived.Test.YtjidkoabdmjgkaaGreatDoorXJ44
import Derived.Test.YtjidkoabdmjgkaaGreatDoorXJ14
import Derived.Test.YtjidkoabdmjgkaaGreatDoorXJ28
set_option linter.all false
section
namespace Go.Proofs.YtjidkoabdmjgkaaGreatDoor
open Go Go.Sy Go.Nt Go.RowKit
attribute [local irreducible] Sy SyL SyX Sy.Fn callFunc natC rowN refC iC gP gQ gL memB safeC fixB gnum gel gsca chal Sh.sum glen
set_option maxRecDepth 10000
def ST (w : World) : Prop := w.rangeAt 0 0 [.int .i64 0, .int .i64 1]
theorem ST.to {w w' : World} (h : ST w) (hk : Keep No w w') : ST w' := zaw h hk (fun h => h)
def halv (z : Int) (l : List UInt8) : List (List UInt8) := if glen z = 0 ∨ l.length ≠ 2 * glen z then [] else [l.take (glen z), l.drop (glen z)]
theorem ze2 (z : Int) (l : List UInt8) : sParts z l = (halv z l).map (fun b => bev 256 (bn b)) := by
  unfold sParts halv; split <;> rfl
def ArgH (O : Nat → Prop) (x : List UInt8) (vs : List Value) (RA : List Res) (w : World) : Prop := ∃ a c, vs = [.slice a x.length c] ∧ RA = [] ∧ SlF w O a (x.map v8) ∧ x.length ≤ c
def ArgV (_ : Nat → Prop) (x : Nat) (vs : List Value) (RA : List Res) (_ : World) : Prop := vs = [natV x] ∧ RA = []
theorem zjz (z : Int) (a : Option Addr) (n c : Nat) (w : World) : Sy.Fn Tryz.prog 67 [.int .i64 z, .slice a n c] w No (fun v R => ∃ b2 b3, v = .func (.func 102) #[] #[.pointer (some ⟨b2, 0, none⟩), .pointer (some ⟨b3, 0, none⟩)] ∧ R = [.blk b3 22 [.slice a n c], .blk b2 3 [.int .i64 z]]) := by
  refine zq Tryz.func67 rfl Tryz.ntmps67 (by simp) Holds.nil ?_
  repeat' (first | refine zh ?_ | refine zf ?_ | refine zp ?_ | refine ze ?_ | refine zj ?_ | (refine za (id := 0) ?_; (refine zm ?_; intro _); (refine zm ?_; intro _); refine zd ?_) | (refine za (id := 1) ?_; refine zag ?_; refine zd ?_) | fail)
  exact ret1 rfl (resTmp rfl) (by exact SubR.go2) ⟨_, _, rfl, rfl⟩
set_option maxHeartbeats 1000000 in
theorem zi8 (b2 b3 : Nat) (z : Int) (a : Option Addr) (n c : Nat) (l : List UInt8) (w : World) (M : Nat → Prop) (hl : l.length = n) (hc : n ≤ c) (hsl : SlF w M a (l.map v8)) (hG : GT w) (hGM : ¬ M 1) (hS : ST w) (hSM : ¬ M 0) :
    IterC Tryz.prog 102 [.pointer (some ⟨b2, 0, none⟩), .pointer (some ⟨b3, 0, none⟩)] (halv z l) ArgH w M [.blk b3 22 [.slice a n c], .blk b2 3 [.int .i64 z]] := by
  intro lp J Jx j0 hJ0 hh hY
  refine zq Tryz.func102 rfl Tryz.ntmps102 (by simp) hh ?_
  have hgl := fun w' (hk : Keep M w w') => zg9 z w' (zaw hG hk hGM)
  have hsn := fun w' (hk : Keep M w w') => zeR z w' (zaw hG hk hGM)
  have hle := zcZ z
  have hS' : w.rangeAt 0 0 [.int .i64 0, .int .i64 1] := hS
  by_cases h0 : glen z = 0
  · have he : halv z l = [] := if_pos (.inl h0)
    rw [he] at hY ⊢
    rw [h0] at hgl
    repeat' (first | refine zh ?_ | refine zf ?_ | refine zw rfl ?_ | refine zp ?_ | refine ze ?_ | refine zj ?_ | refine zy ?_ | (refine za (id := 0) ?_; refine zz ?_; refine yv (zi (f := 72) (hc := fun w' _ hk _ => hgl w' hk)) (k := ?_); refine zd ?_) | (refine zV (id := 1) 7 [[], [0], [0, 1], [0, 1, 2], [0, 1, 2, 3], [0, 1, 2], [0, 1, 2, 5], [0, 1, 2, 3, 4, 5, 6], [0, 1, 2, 3, 4, 5, 6, 7]] mixed ?_ ?_; kernel_rfl; refine zB ?_; refine zni ?_; refine zB ?_; refine zbW (fun _ => rfl) rfl ?_; refine zbW (fun _ => rfl) rfl ?_; refine zbW (fun _ => rfl) rfl ?_; refine zbW (fun _ => rfl) rfl ?_; refine z7 ?_; refine zo rfl rfl rfl ?_; refine zx ?_) | fail)
    exact ret0 rfl (by exact SubR.go2) ⟨j0, rfl, .inl hJ0⟩
  have g1 : decide (((glen z : Nat) : Int) = 0) = false := decide_eq_false (by omega)
  by_cases h1 : n = 2 * glen z
  rotate_left
  · have he : halv z l = [] := if_pos (.inr (by rw [hl]; exact h1))
    have g2 : decide ((n : Int) ≠ ((2 * glen z : Nat) : Int)) = true := decide_eq_true (fun h => h1 (by omega))
    rw [he] at hY ⊢
    generalize glen z = m at *
    repeat' (first | refine zh ?_ | refine zf ?_ | refine zw rfl ?_ | refine zp ?_ | refine ze ?_ | refine zj ?_ | refine zy ?_ | (refine za (id := 0) ?_; refine zz ?_; refine yv (zi (f := 72) (hc := fun w' _ hk _ => hgl w' hk)) (k := ?_); refine zd ?_) | (refine zV (id := 1) 7 [[], [0], [0, 1], [0, 1, 2], [0, 1, 2, 3], [0, 1, 2], [0, 1, 2, 5], [0, 1, 2, 3, 4, 5, 6], [0, 1, 2, 3, 4, 5, 6, 7]] mixed ?_ ?_; kernel_rfl; refine zB ?_; refine dc (fun _ _ => z3 (hr := g1)) (k := ?_); refine zB ?_; refine zcy ?_; refine zlH ?_; refine zcy ?_; refine dc (fun _ _ => zi (f := 24) (hc := fun w' _ hk _ => hsn w' hk)) (k := ?_); refine z7 ?_; refine yv (zax (hr := g2)) (k := ?_); refine zx ?_) | fail)
    exact ret0 rfl (by exact SubR.go2) ⟨j0, rfl, .inl hJ0⟩
  have g2 : decide ((n : Int) ≠ ((2 * glen z : Nat) : Int)) = false := decide_eq_false (fun h => h (by omega))
  have hx : ∀ k (hk : k < (halv z l).length), k < 2 ∧ (halv z l)[k] = (l.take ((k + 1) * glen z)).drop (k * glen z) := by
    have he : halv z l = [l.take (glen z), l.drop (glen z)] := if_neg (by rw [hl]; omega)
    rw [he]
    intro k hk
    have hk2 : k < 2 := hk
    refine ⟨hk2, ?_⟩
    rcases (show k = 0 ∨ k = 1 by omega) with rfl | rfl
    · show l.take (glen z) = (l.take ((0 + 1) * glen z)).drop (0 * glen z)
      rw [Nat.zero_add, Nat.one_mul, Nat.zero_mul, List.drop_zero]
    · show l.drop (glen z) = (l.take ((1 + 1) * glen z)).drop (1 * glen z)
      rw [Nat.one_mul, List.take_of_length_le (by omega)]
  have hlen : (halv z l).length = 2 := by
    have he : halv z l = [l.take (glen z), l.drop (glen z)] := if_neg (by rw [hl]; omega)
    rw [he]; rfl
  generalize halv z l = xs at *
  generalize glen z = m at *
  repeat' (first | refine zh ?_ | refine zf ?_ | refine zt rfl ?_ | refine zu ?_ | refine zr ?_ | refine ze ?_ | refine zj ?_ | (refine za (id := 0) ?_; refine zz ?_; refine yv (zi (f := 72) (hc := fun w' _ hk _ => hgl w' hk)) (k := ?_); refine zd ?_) | (refine zV (id := 1) 7 [[], [0], [0, 1], [0, 1, 2], [0, 1, 2, 3], [0, 1, 2], [0, 1, 2, 5], [0, 1, 2, 3, 4, 5, 6], [0, 1, 2, 3, 4, 5, 6, 7]] mixed ?_ ?_; kernel_rfl; refine zB ?_; refine dc (fun _ _ => z3 (hr := g1)) (k := ?_); refine zB ?_; refine zcy ?_; refine zlH ?_; refine zcy ?_; refine dc (fun _ _ => zi (f := 24) (hc := fun w' _ hk _ => hsn w' hk)) (k := ?_); refine z7 ?_; refine yv (zax (hr := g2)) (k := ?_); refine zx ?_) | (refine za (id := 2) ?_; refine yv (zaa (B := [.int .i64 0, .int .i64 1]) (hv := hS') (hn := hSM)) (k := ?_); refine zb ?_) | fail)
  refine zQ (γ := Nat × Res) (fun g => [(0, .func (.yield lp) #[] #[]), (1, .pointer (some ⟨b2, 0, none⟩)), (2, .pointer (some ⟨b3, 0, none⟩)), (4, .int .i64 m), (18, .agg [Value.int .i64 0, .int .i64 1].toArray), (19, .int .i64 ((g.1 : Nat) : Int))]) (fun g => [g.2, .blk b3 22 [.slice a n c], .blk b2 3 [.int .i64 z]]) (fun g => g.1 ≤ 2 ∧ J g.1 g.2) (fun g => 2 - g.1) (0, j0) ⟨Nat.zero_le _, hJ0⟩ ?_ ?_ ?_
  · exact Sub.go
  · exact SubR.go
  rintro ⟨k, j⟩ ⟨h2, hJ⟩
  dsimp only at h2 hJ ⊢
  rcases Nat.lt_or_ge k 2 with h | h
  · have hkx : k < xs.length := by omega
    obtain ⟨-, hxk⟩ := hx k hkx
    have hlt : decide ((k : Int) < 2) = true := decide_eq_true (by omega)
    have hidx : [Value.int IntKind.i64 0, .int .i64 1][k]? = some (.int .i64 (k : Int)) := by
      rcases (show k = 0 ∨ k = 1 by omega) with rfl | rfl <;> rfl
    have hadd : IntKind.i64.wrap ((k : Int) + 1) = ((k + 1 : Nat) : Int) := by rw [IntWalk.i64_in _ (by omega)]; omega
    obtain ⟨p, hp⟩ : ∃ p, p = k * m := ⟨_, rfl⟩
    obtain ⟨q, hq⟩ : ∃ q, q = (k + 1) * m := ⟨_, rfl⟩
    have hpq : q = p + m := by rw [hq, hp, Nat.succ_mul]
    have hpm : p ≤ m := by rw [hp]; exact Nat.le_trans (Nat.mul_le_mul_right m (show k ≤ 1 by omega)) (by omega)
    have hm1 : IntKind.i64.wrap ((k : Int) * (m : Int)) = ((p : Nat) : Int) := by
      rw [← Int.natCast_mul, ← hp, IntWalk.i64_in _ (by omega)]
    have hm2 : IntKind.i64.wrap (((k + 1 : Nat) : Int) * (m : Int)) = ((q : Nat) : Int) := by
      rw [← Int.natCast_mul, ← hq, IntWalk.i64_in _ (by omega)]
    rw [← hp, ← hq] at hxk
    have hxl : ((l.take q).drop p).length = m := by rw [List.length_drop, List.length_take]; omega
    have hsf : SlF w M (movA a p q 1) (((l.take q).drop p).map v8) := by
      have := (hsl.take q).mov (l := p) (m := q) (by rw [List.length_take, List.length_map]; omega)
      rwa [← List.map_take, ← List.map_drop] at this
    obtain ⟨a', ha'⟩ : ∃ a', a' = movA a p q 1 := ⟨_, rfl⟩
    rw [← ha'] at hsf
    have hmm : q - p = m := by omega
    repeat' (first | refine zh ?_ | refine zf ?_ | refine zw rfl ?_ | refine zu ?_ | refine zr ?_ | refine ze ?_ | refine zj ?_ | (refine za (id := 3) ?_; refine yv (zS (hr := hlt)) (k := ?_)) | (refine za (id := 4) ?_; refine yv (ze6 (j := k) (hv := hidx)) (k := ?_); refine zd ?_) | (refine za (id := 5) ?_; refine zb ?_; refine zz ?_; refine zb ?_; refine zb ?_; refine yv (zab (hr := hm1)) (k := ?_); refine zb ?_; refine yv (zK (hr := hadd)) (k := ?_); refine zb ?_; refine yv (zab (hr := hm2)) (k := ?_); refine zb ?_; refine yv (zK (hr := hadd)) (k := ?_); refine zb ?_; refine yv (zab (hr := hm2)) (k := ?_); refine yv (zaL (l := p) (h := q) (m := q) (n' := m) (c' := m) (a' := a') (ha := ha'.symm) (hn' := hmm) (hc' := hmm)) (k := ?_); (refine ys (zb3 hY hkx hJ (hL := RemL.cons (by repeat (first | exact Rem.here | apply Rem.there)) rfl RemL.nil) (harg := fun w' X hk hh' => ⟨a', m, by rw [hxk, hxl], rfl, by rw [hxk]; exact hsf.to hk (fun b hb => hh'.mine _ (by exact List.mem_cons_self) b hb), by rw [hxk, hxl]; exact Nat.le_refl _⟩)) (k := ?_); rintro _ _ ⟨y, j', rfl, rfl, hy⟩); refine zau ?_) | fail)
    cases y with
    | false =>
      repeat' (first | refine zw rfl ?_ | refine zp ?_ | refine zy ?_ | refine zad ?_ | fail)
      exact ret0 rfl (by exact SubR.go2) ⟨j', rfl, .inr ⟨k + 1, by omega, hy⟩⟩
    | true =>
      repeat' (first | refine zf ?_ | refine zt rfl ?_ | refine zr ?_ | refine ze ?_ | refine zj ?_ | (refine za (id := 6) ?_; refine yv (zK (hr := hadd)) (k := ?_); refine zb ?_) | fail)
      refine zI (k + 1, j') ⟨by show k + 1 ≤ 2; omega, hy⟩ ?_ ?_ ?_
      · show 2 - (k + 1) < 2 - k; omega
      · exact Sub.go
      · dsimp only
        exact SubR.go2
  · obtain rfl : k = 2 := by omega
    have hlt : decide (((2 : Nat) : Int) < 2) = false := rfl
    repeat' (first | refine zh ?_ | refine zf ?_ | refine zt rfl ?_ | refine zE ?_ | refine ze ?_ | refine zj ?_ | refine zav ?_ | refine zaP ?_ | (refine za (id := 3) ?_; refine yv (zS (hr := hlt)) (k := ?_)) | fail)
    exact end0 rfl (by exact SubR.go) ⟨j, rfl, .inl (hlen.symm ▸ hJ)⟩
def PRes (b2 b3 : Nat) (z : Int) (a : Option Addr) (n c : Nat) (l : List UInt8) : List Res := [.blk b3 22 [.slice a n c], .blk b2 3 [.int .i64 z], .row (.slice a n c) 5 1 n (l.map v8)]
def PartsOf (z : Int) (n : Nat) (l : List UInt8) (v : Value) (R : List Res) : Prop := ∃ b2 b3 a c, v = .func (.func 66) #[] #[.pointer (some ⟨b2, 0, none⟩), .pointer (some ⟨b3, 0, none⟩)] ∧ R = PRes b2 b3 z a n c l
theorem zg5 (z : Int) (a : Option Addr) (n c : Nat) (l : List UInt8) (w : World) (hb : (⟨a, n, c, l⟩ : Bs).ok w) (hn : n < 1000000) : Sy.Fn Tryz.prog 15 [.int .i64 z, .slice a n c] w No (PartsOf z n l) := by
  refine zq Tryz.func15 rfl Tryz.ntmps15 (by simp) Holds.nil ?_
  have hl : l.length = n := hb.len
  have hs := hb.sla
  have hnil : a = none → c = 0 := hb.nil
  dsimp only at hs
  repeat' (first | refine zh ?_ | refine zf ?_ | refine zp ?_ | refine ze ?_ | refine zj ?_ | (refine za (id := 0) ?_; (refine zm ?_; intro _); (refine zm ?_; intro _); refine zd ?_) | (refine za (id := 1) ?_; refine zz ?_; (refine ys zfI (k := ?_); rintro _ _ ⟨rfl, _, _, rfl⟩); refine zH ?_) | (refine za (id := 2) ?_; refine zag ?_; refine zd ?_) | fail)
  exact ret1 rfl (resTmp rfl) (by exact SubR.go2) ⟨_, _, _, _, rfl, rfl⟩
set_option maxHeartbeats 1000000 in
theorem zeG (b2 b3 : Nat) (z : Int) (a : Option Addr) (n c : Nat) (l : List UInt8) (w : World) (M : Nat → Prop) (hl : l.length = n) (hG : GT w) (hGM : ¬ M 1) (hS : ST w) (hSM : ¬ M 0) :
    IterC Tryz.prog 66 [.pointer (some ⟨b2, 0, none⟩), .pointer (some ⟨b3, 0, none⟩)] (sParts z l) ArgV w M (PRes b2 b3 z a n c l) := by
  intro lp J Jx j0 hJ0 hh hY
  refine zq Tryz.func66 rfl Tryz.ntmps66 (by simp) hh ?_
  unfold PRes
  have hpl : (sParts z l).length = (halv z l).length := by rw [ze2, List.length_map]
  have hle := zcZ z
  have hx96 : ∀ k (hk : k < (halv z l).length), (halv z l)[k].length ≤ 96 := by
    intro k hk
    have hm : (halv z l)[k] ∈ halv z l := List.getElem_mem hk
    generalize (halv z l)[k] = x at *
    unfold halv at hm
    split at hm
    · cases hm
    · rename_i h
      simp only [List.mem_cons, List.not_mem_nil, or_false] at hm
      rcases hm with rfl | rfl
      · rw [List.length_take]; omega
      · rw [List.length_drop]; omega
  have hxk : ∀ k (hk : k < (halv z l).length), (sParts z l)[k]'(hpl ▸ hk) = bev 256 (bn (halv z l)[k]) := by
    intro k hk
    have : ∀ (xs : List Nat) (h : xs = (halv z l).map (fun b => bev 256 (bn b))) (hk' : k < xs.length), xs[k] = bev 256 (bn (halv z l)[k]) := by
      intro xs h hk'
      subst h
      rw [List.getElem_map]
    exact this _ (ze2 z l) _
  repeat' (first | refine zh ?_ | refine zf ?_ | refine zu ?_ | refine zdQ ?_ | refine ze ?_ | refine zj ?_ | refine zdN ?_ | (refine za (id := 0) ?_; (refine zm ?_; intro _)) | (refine za (id := 1) ?_; refine zz ?_; refine zz ?_; (refine ys (zF (f := 67) (hc := fun w' X hk hh => zjz z a n c w')) (k := ?_); rintro _ _ ⟨R, rfl, b4, b5, rfl, rfl⟩)) | fail)
  rename_i bY
  refine zb6 (γ := Res) (xs := halv z l) (Arg := ArgH) za3 rfl (en rfl) rfl (fun k s => J k s) (fun cc k s => cc = .exit 0 ∧ Jx k s)
    (fun s => [s, .blk bY 79 [.func (.yield lp) #[] #[]]]) [.blk b5 22 [.slice a n c], .blk b4 3 [.int .i64 z]] [.blk b3 22 [.slice a n c], .blk b2 3 [.int .i64 z], .row (.slice a n c) 5 1 n (l.map v8)] j0 hJ0 ?_ ?_ ?_ ?_ ?_ ?_
  · ((try simp only [List.cons_append, List.nil_append, List.append_nil]); (repeat' (first | exact List.Perm.nil | exact List.Perm.refl _ | (apply permr; with_reducible (focus ((repeat (first | exact Rem.here | apply Rem.there)); done))) | (apply permr; (focus ((repeat (first | exact Rem.here | apply Rem.there)); done))))))
  · intro w' Mi X hk hm hm1 hh'
    simp only [List.cons_append, List.nil_append, List.append_nil] at hh'
    obtain ⟨q1, q2⟩ := zbl hG (by unfold gCells; simp) hGM hk hm
    obtain ⟨q3, q4⟩ := zbl hS (List.cons_ne_nil _ _) hSM hk hm
    exact zi8 b4 b5 z a n c l w' Mi hl (Row.cap (a := a) (n := n) (c := c) hh' (by exact Has.there (Has.there (Has.there (Has.there (Has.there (Has.there Has.here))))))) (SlF.row (n := n) (m := n) hh' (by exact Has.there (Has.there (Has.there (Has.there (Has.there (Has.there Has.here)))))) (notOwn (by exact Has.there (Has.there Has.here)) hm1)) q1 q2 q3 q4
  · rintro O x vs RA w' ⟨ax, cx, rfl, -⟩; rfl
  · rintro lq k hk s vs RA W rec hrec hJs ⟨ax, cx, rfl, rfl, hsx, hcx⟩ hkW hmine
    have hY' := hY.to hkW hmine
    have hkp : k < (sParts z l).length := hpl ▸ hk
    have h96 := hx96 k hk
    have hxe := hxk k hk
    have hfb := fun w' hk' => za1 ax (halv z l)[k].length cx (halv z l)[k] w' rfl hcx (hsx.to (Mi := No) hk' (fun _ h => h.elim)).sla (by omega)
    rw [if_pos (bevW' (by omega))] at hfb
    generalize (halv z l)[k] = x at *
    have hlv := zg (bev 256 (bn x))
    have hd := fun w' => zbk (bev 256 (bn x)) 0 w'
    generalize bev 256 (bn x) = v at *
    repeat' (first | refine zh ?_ | refine zf ?_ | refine zw rfl ?_ | refine zt rfl ?_ | refine zu ?_ | refine zr ?_ | refine zE ?_ | refine ze ?_ | refine zj ?_ | refine zaq ?_ | refine zbg rfl ?_ | (apply zbh; (focus ((repeat (first | exact Rem.here | apply Rem.there)); done)); assumption) | (refine za (id := 2) ?_; refine zd ?_) | (refine zV (id := 3) 6 [[], [], [1], [1, 2], [1, 2], [1, 2, 3, 4], [0, 1, 2, 3, 4, 5], [0, 1, 2, 3, 4, 5, 6]] mixed ?_ ?_; kernel_rfl; refine zcy ?_; refine zB ?_; refine dc (fun _ _ => zi (f := 68) (hc := fun w' _ hk _ => hfb w' hk)) (k := ?_); refine zbx ?_; refine zbx ?_; refine dc (fun _ _ => zi (hc := fun _ _ _ _ => (hd _))) (k := ?_); refine z7 ?_; (refine ys (zb3 hY' hkp hJs (hL := RemL.cons (by exact Rem.there Rem.here) rfl RemL.nil) (harg := fun w' X _ _ => ⟨by rw [hxe], rfl⟩)) (k := ?_); rintro _ _ ⟨y, j', rfl, rfl, hy⟩; cases y); refine zau ?_) | (refine zT ?_; first | refine zau ?_ | fail) | fail)
    · refine zcw j' ⟨rfl, hy⟩ ?_
      exact SubR.go
    · refine zbY j' hy ?_
      exact SubR.go
  · intro s hs
    repeat' (first | refine zaq ?_ | refine zhQ ?_ | fail)
    exact end0 rfl (by exact SubR.go2) ⟨s, rfl, .inl (hpl ▸ hs)⟩
  · rintro cc k s hk ⟨rfl, h⟩
    repeat' (first | refine zE ?_ | refine zaP ?_ | refine zhQ ?_ | fail)
    exact end0 rfl (by exact SubR.go2) ⟨s, rfl, .inr ⟨k, hpl ▸ hk, h⟩⟩
end Go.Proofs.YtjidkoabdmjgkaaGreatDoor
end
section
namespace Go.Proofs.YtjidkoabdmjgkaaGreatDoor
open Go Go.Sy Go.Wd Go.Sh Go.RowKit
theorem gStart : Tryz.prog.globalNamed "watchword/sha.start" = some 2 := by kernel_rfl
theorem gKonst : Tryz.prog.globalNamed "watchword/sha.constants" = some 3 := by kernel_rfl
theorem gScal : Tryz.prog.globalNamed "watchword/sign.scalars" = some 0 := by kernel_rfl
theorem tyStart : (Tryz.prog.globals[2]?).map (·.type) = some 121 := by kernel_rfl
theorem tyKonst : (Tryz.prog.globals[3]?).map (·.type) = some 150 := by kernel_rfl
theorem tyScal : (Tryz.prog.globals[0]?).map (·.type) = some 113 := by kernel_rfl
theorem dStart : (Rows.laid_watchword_sha_start : DataW Unit) = Lib.tabData .u32 (h0.map n32) := by kernel_rfl
theorem dKonst : (Rows.laid_watchword_sha_constants : DataW Unit) = Lib.tabData .u32 (kC.map n32) := by kernel_rfl
theorem dScal : (Rows.laid_watchword_sign_scalars : DataW Unit) = Lib.tabData .i64 [0, 1] := by kernel_rfl
theorem undStart : Tryz.prog.underlying 121 = some (.array 8 119) := by kernel_rfl
theorem undKonst : Tryz.prog.underlying 150 = some (.array 64 119) := by kernel_rfl
theorem undU32 : Tryz.prog.underlying 119 = some (.int .u32) := by kernel_rfl
theorem undInt : Tryz.prog.underlying 3 = some (.int .i64) := by kernel_rfl
theorem undScal : Tryz.prog.underlying 113 = some (.array 2 3) := by kernel_rfl
theorem cellsU32 : Tryz.prog.cellsOf 119 = 1 := by kernel_rfl
theorem cellsInt : Tryz.prog.cellsOf 3 = 1 := by kernel_rfl
theorem cellsStart : Tryz.prog.cellsOf 121 = 8 := by kernel_rfl
theorem cellsKonst : Tryz.prog.cellsOf 150 = 64 := by kernel_rfl
theorem cellsScal : Tryz.prog.cellsOf 113 = 2 := by kernel_rfl
theorem zhO {W : World} {l : List (String × DataW Unit)} (h : laidMet Tryz.prog l W) (h1 : ("watchword/sha.start", Rows.laid_watchword_sha_start) ∈ l) (h2 : ("watchword/sha.constants", Rows.laid_watchword_sha_constants) ∈ l) : Tab W No := by
  rw [dStart] at h1
  rw [dKonst] at h2
  have a1 := zfa h h1 gStart tyStart undStart undU32 cellsU32 cellsStart
  have a2 := zfa h h2 gKonst tyKonst undKonst undU32 cellsU32 cellsKonst
  rw [List.map_map] at a1 a2
  exact ⟨a1, a2, fun h => h, fun h => h⟩
theorem zjh {W : World} {l : List (String × DataW Unit)} (h : laidMet Tryz.prog l W) (h1 : ("watchword/sign.scalars", Rows.laid_watchword_sign_scalars) ∈ l) : ST W := by
  rw [dScal] at h1
  exact zfa h h1 gScal tyScal undScal undInt cellsInt cellsScal
noncomputable def laidWorldS (os : Os) : World :=
  { laidWorldG os with heap := (((((laidWorldG os).heap.modify 2 (putCells (h0.map Sy.v32))).modify 3 (putCells (kC.map Sy.v32))).modify 0 (putCells [.int .i64 0, .int .i64 1])).modify 5 (putCells [.slice (some ⟨(laidWorldG os).heap.size, 0, none⟩) 64 64])).push (.cells (kC.map Wd.vi).toArray 3) }
end Go.Proofs.YtjidkoabdmjgkaaGreatDoor
end
