/- The groups: elements, scalars, powers, fixed bytes, conditions of several numbers. -/
import Derived.Test.YtjidkoabdmjgkaaGreatDoorXJ28
set_option linter.all false
section
namespace Go.Nt
open Go Go.Sy
def memB (p q x : Nat) : Bool := decide (0 < x ∧ x < p ∧ x ^ q % p = 1)
def fixB (l x : Nat) : List UInt8 := List.replicate (l - nd 256 x) 0 ++ byt x
theorem za5 (l x : Nat) (h : nd 256 x ≤ l) : (fixB l x).length = l := by
  unfold fixB; rw [List.length_append, List.length_replicate, zcL]; omega
end Go.Nt
namespace Go.Proofs.YtjidkoabdmjgkaaGreatDoor
open Go Go.Sy Go.Nt Go.RowKit
attribute [local irreducible] Sy SyL SyX Sy.Fn callFunc natC rowN safeC gP gQ gL gS gCells memB
set_option maxRecDepth 10000
theorem ze7 (p q l x e : Nat) (w : World) (hp : p < 18446744073709551616 ^ 16) (h0 : 0 < p) (hx : x < 18446744073709551616 ^ 16) (he : e < 18446744073709551616 ^ 16) :
    Sy.Fn Tryz.prog 85 [safeV p q l, natV x, natV e] w No (Gives (natV (x ^ e % p))) := by
  refine zq Tryz.func85 rfl Tryz.ntmps85 (by simp) Holds.nil ?_
  have lS := zG p q l
  have lp := zg p
  have lx := zg x
  have le := zg e
  have hsp := zaF p q l
  have hex := fun w' => zmM x e p w' hx he hp
  unfold modR at hex
  simp only [if_neg (show ¬ p = 0 by omega)] at hex
  have lr := zg (x ^ e % p)
  generalize x ^ e % p = r at *
  repeat' (first | refine zh ?_ | refine zf ?_ | refine zp ?_ | refine ze ?_ | refine zj ?_ | (refine za (id := 0) ?_; (refine zm ?_; intro _); (refine zm ?_; intro _); (refine zm ?_; intro _); (refine zm ?_; intro _)) | (refine za (id := 1) ?_; refine yv (zl (B := natC x)) (k := ?_); refine yv (zl (B := natC e)) (k := ?_); refine zD ?_; refine yv (zl (B := natC p) (hv := hsp)) (k := ?_); refine yv (zi (hc := fun _ _ _ _ => (hex _))) (k := ?_); refine zb ?_; refine zk ?_; refine zk ?_; (refine zm ?_; intro _); refine yn (zn (n := r)) (k := ?_); refine zd ?_) | (refine za (id := 2) ?_; refine yv (zl (B := natC r)) (k := ?_); refine yn (zn (n := r)) (k := ?_)) | fail)
  exact ret1 rfl (resCells (B := natC r) rfl (ty rfl) rfl Has.go Seg.all (zg _).symm) SubR.nil ⟨rfl, rfl⟩
theorem zby (p q l x : Nat) (w : World) (hq : q < 18446744073709551616 ^ 16) (hx : x < 18446744073709551616 ^ 16) :
    Sy.Fn Tryz.prog 83 [safeV p q l, natV x] w No (Gives (.bool (decide (x < q)))) := by
  refine zq Tryz.func83 rfl Tryz.ntmps83 (by simp) Holds.nil ?_
  have lS := zG p q l
  have lq := zg q
  have lx := zg x
  have hsq := zaG p q l
  have hc := fun w' => zbA x q w' hx hq
  have hr : decide (cmpI x q < 0) = decide (x < q) := decide_eq_decide.2 (by
    unfold cmpI
    by_cases h : x < q
    · rw [if_pos h]; exact ⟨fun _ => h, fun _ => by decide⟩
    · rw [if_neg h]; split <;> omega)
  repeat' (first | refine zh ?_ | refine zf ?_ | refine zp ?_ | refine ze ?_ | refine zj ?_ | (refine za (id := 0) ?_; (refine zm ?_; intro _); (refine zm ?_; intro _); refine zd ?_) | (refine za (id := 1) ?_; refine yv (zl (B := natC x)) (k := ?_); refine zD ?_; refine yv (zl (B := natC q) (hv := hsq)) (k := ?_); refine yv (zi (hc := fun _ _ _ _ => (hc _))) (k := ?_); refine yv (zS (hr := hr)) (k := ?_); refine zd ?_) | fail)
  exact ret1 rfl (resTmp rfl) SubR.nil ⟨rfl, rfl⟩
theorem zkZ {x y : Nat} (h : x ≤ y) : cmpI x y ≤ 0 := by
  unfold cmpI
  by_cases h1 : x < y
  · rw [if_pos h1]; decide
  · rw [if_neg h1]; split <;> omega
theorem zba (p q l x : Nat) (w : World) (hp : p < 18446744073709551616 ^ 16) (hq : q < 18446744073709551616 ^ 16) (h0 : 0 < p) (hx : x < 18446744073709551616 ^ 16) :
    Sy.Fn Tryz.prog 81 [safeV p q l, natV x] w No (Gives (.bool (memB p q x))) := by
  refine zq Tryz.func81 rfl Tryz.ntmps81 (by simp) Holds.nil ?_
  have lS := zG p q l
  have lp := zg p
  have lq := zg q
  have lx := zg x
  have l1 := zg 1
  have hsp := zaF p q l
  have hsq := zaG p q l
  have hz := fun w' => zbq x w' hx
  have hc := fun w' => zbA p x w' hp hx
  rcases Nat.eq_zero_or_pos x with h | h
  · subst h
    have hb : memB p q 0 = false := by unfold memB; exact decide_eq_false (fun h => absurd h.1 (by omega))
    rw [hb]
    repeat' (first | refine zh ?_ | refine zf ?_ | refine zw rfl ?_ | refine zp ?_ | refine ze ?_ | refine zj ?_ | refine zy ?_ | (refine za (id := 0) ?_; (refine zm ?_; intro _); (refine zm ?_; intro _); refine zd ?_) | (refine za (id := 1) ?_; refine yv (zl (B := natC 0)) (k := ?_); refine yv (zi (hc := fun _ _ _ _ => (hz _))) (k := ?_); refine zb ?_; refine zo rfl rfl rfl ?_; refine zo rfl rfl rfl ?_; refine zo rfl rfl rfl ?_; refine zo rfl rfl rfl ?_; refine zo rfl rfl rfl ?_; refine zx ?_) | (refine za (id := 2) ?_; refine zd ?_) | fail)
    exact ret1 rfl (resTmp rfl) SubR.nil ⟨rfl, rfl⟩
  simp only [decide_eq_false (show ¬ x = 0 by omega)] at hz
  by_cases hxp : x < p
  · have g1 : decide (cmpI p x ≤ 0) = false := by rw [zeS hxp]; rfl
    have hpw := fun w' => ze7 p q l x q w' hp h0 hx hq
    have f1 := fun w' => zd4 1 w' (by decide)
    have hrW := Nat.lt_trans (Nat.mod_lt (x ^ q) h0) hp
    have hr : decide (x ^ q % p = 1) = memB p q x := by
      unfold memB
      exact decide_eq_decide.2 ⟨fun e => ⟨h, hxp, e⟩, fun e => e.2.2⟩
    generalize memB p q x = b at *
    generalize x ^ q % p = r at *
    generalize cmpI p x = cz at *
    repeat' (first | refine zh ?_ | refine zf ?_ | refine zt rfl ?_ | refine zr ?_ | refine zp ?_ | refine ze ?_ | refine zj ?_ | (refine za (id := 0) ?_; (refine zm ?_; intro _); (refine zm ?_; intro _); refine zd ?_) | (refine za (id := 1) ?_; refine yv (zl (B := natC x)) (k := ?_); refine yv (zi (hc := fun _ _ _ _ => (hz _))) (k := ?_); refine zb ?_; refine zD ?_; refine yv (zl (B := natC p) (hv := hsp)) (k := ?_); refine yv (zl (B := natC x)) (k := ?_); refine yv (zi (hc := fun _ _ _ _ => (hc _))) (k := ?_); refine yv (zbT (hr := g1)) (k := ?_); refine zx ?_) | (refine za (id := 3) ?_; refine yv (zi (hc := fun _ _ _ _ => (f1 _))) (k := ?_); refine zb ?_; refine zk ?_; refine zk ?_; (refine zm ?_; intro _); refine yn (zn (n := 1)) (k := ?_); refine zd ?_) | (refine zV (id := 4) 6 [[], [], [], [2], [0, 1, 2, 3], [], [0, 1, 2, 3, 4, 5], [0, 1, 2, 3, 4, 5, 6]] mixed ?_ ?_; kernel_rfl; refine dc (fun _ _ => zl (B := safeC p q l)) (k := ?_); refine dc (fun _ _ => zl (B := natC x)) (k := ?_); refine zbt ?_; refine dc (fun _ _ => zl (B := natC q) (hv := hsq)) (k := ?_); refine dc (fun _ _ => zi (hc := fun _ _ _ _ => (hpw _))) (k := ?_); refine dc (fun _ _ => zl (B := natC 1)) (k := ?_); refine z7 ?_; refine yv (zhh (a := r) (b := 1) (r := b) natTy hrW (by decide) hr) (k := ?_); refine zd ?_) | fail)
    exact ret1 rfl (resTmp rfl) SubR.nil ⟨rfl, rfl⟩
  · have g1 : decide (cmpI p x ≤ 0) = true := decide_eq_true (zkZ (by omega))
    have hb : memB p q x = false := by unfold memB; exact decide_eq_false (fun h => hxp h.2.1)
    rw [hb]
    generalize cmpI p x = cz at *
    repeat' (first | refine zh ?_ | refine zf ?_ | refine zw rfl ?_ | refine zp ?_ | refine ze ?_ | refine zj ?_ | refine zy ?_ | (refine za (id := 0) ?_; (refine zm ?_; intro _); (refine zm ?_; intro _); refine zd ?_) | (refine za (id := 1) ?_; refine yv (zl (B := natC x)) (k := ?_); refine yv (zi (hc := fun _ _ _ _ => (hz _))) (k := ?_); refine zb ?_; refine zD ?_; refine yv (zl (B := natC p) (hv := hsp)) (k := ?_); refine yv (zl (B := natC x)) (k := ?_); refine yv (zi (hc := fun _ _ _ _ => (hc _))) (k := ?_); refine yv (zbT (hr := g1)) (k := ?_); refine zx ?_) | (refine za (id := 2) ?_; refine zd ?_) | fail)
    exact ret1 rfl (resTmp rfl) SubR.nil ⟨rfl, rfl⟩
theorem zio (p q l x bc bg f : Nat) (b : Bool) (w : World) (hen : ∀ args w, (callFunc f args).run Tryz.prog w = .ok (.enter f args) w) (hf : ∀ w', Sy.Fn Tryz.prog f [safeV p q l, natV x] w' No (Gives (.bool b)))
    (hc : w.cell? ⟨bc, 0, none⟩ = some (.func (.func f) #[] #[])) (hg : w.rangeAt bg 0 (safeC p q l)) :
    Sy.Fn Tryz.prog 116 [natV x, .pointer (some ⟨bc, 0, none⟩), .pointer (some ⟨bg, 0, none⟩)] w No (Gives (.bool b)) := by
  refine zq Tryz.func116 rfl Tryz.ntmps116 (by simp) Holds.nil ?_
  have lS := zG p q l
  have lx := zg x
  repeat' (first | refine zh ?_ | refine zf ?_ | refine zp ?_ | refine ze ?_ | refine zj ?_ | (refine za (id := 0) ?_; (refine zm ?_; intro _); refine zd ?_) | (refine za (id := 1) ?_; refine yv (zN (hv := hc)) (k := ?_); refine yv (zaa (B := safeC p q l) (hv := hg)) (k := ?_); refine yv (zl (B := natC x)) (k := ?_); refine yv (zcc (he := hen) (fst := []) (cap := []) (hc := fun w' X hk hh => hf w')) (k := ?_); refine zd ?_) | fail)
  exact ret1 rfl (resTmp rfl) SubR.nil ⟨rfl, rfl⟩
theorem zjp (p q l f n c ab ao : Nat) (xs : List Nat) (cond : Nat → Bool) (w : World) (hn : xs.length = n) (hn2 : n ≤ 1000) (hen : ∀ args w, (callFunc f args).run Tryz.prog w = .ok (.enter f args) w)
    (hf : ∀ x ∈ xs, ∀ w', Sy.Fn Tryz.prog f [safeV p q l, natV x] w' No (Gives (.bool (cond x)))) (hs : w.rangeAt ab ao (rowN xs)) :
    Sy.Fn Tryz.prog 82 [safeV p q l, .func (.func f) #[] #[], .slice (some ⟨ab, ao, none⟩) n c] w No (Gives (.int .i64 (if xs.all cond then 0 else 3))) := by
  refine zq Tryz.func82 rfl Tryz.ntmps82 (by simp) Holds.nil ?_
  have lS := zG p q l
  repeat' (first | refine zh ?_ | refine zf ?_ | refine zu ?_ | refine ze ?_ | refine zj ?_ | (refine za (id := 0) ?_; (refine zm ?_; intro _); (refine zm ?_; intro _); refine zd ?_) | (refine za (id := 1) ?_; refine zag ?_; refine zd ?_) | (refine za (id := 2) ?_; refine zb ?_; refine zA ?_; refine zb ?_) | fail)
  rename_i b3 b4
  refine zQ (γ := Nat) (fun k => [(7, .func (.func 116) #[] #[.pointer (some ⟨b4, 0, none⟩), .pointer (some ⟨b3, 0, none⟩)]), (11, .slice (some ⟨ab, ao, none⟩) n c), (12, .int .i64 n), (13, .int .i64 k)])
    (fun _ => [.blk b4 96 [.func (.func f) #[] #[]], .blk b3 88 (safeC p q l)])
    (fun k => k ≤ n ∧ (xs.take k).all cond = true) (fun k => n - k) 0 ⟨Nat.zero_le _, rfl⟩ ?_ ?_ ?_
  · exact Sub.go
  · exact SubR.go2
  rintro k ⟨hk, hall⟩
  rcases Nat.lt_or_ge k n with h | h
  · obtain ⟨x, hx⟩ : ∃ x, xs[k]? = some x := ⟨_, List.getElem?_eq_getElem (by omega)⟩
    have hrow : w.rangeAt ab (ao + k * 16) (natC x) := fun j v hj => by
      have := hs (k * 16 + j) v (zbN hx j v hj)
      rwa [← Nat.add_assoc] at this
    have hfx := hf x (List.mem_of_getElem? hx)
    have lx := zg x
    have hlt : decide ((k : Int) < (n : Int)) = true := decide_eq_true (by omega)
    have htk : xs.take (k + 1) = xs.take k ++ [x] := by
      rw [List.take_succ, hx]; rfl
    cases hcx : cond x with
    | true =>
      rw [hcx] at hfx
      repeat' (first | refine zh ?_ | refine zf ?_ | refine zw rfl ?_ | refine zt rfl ?_ | refine zu ?_ | refine zr ?_ | refine ze ?_ | refine zj ?_ | (refine za (id := 3) ?_; refine yv (zS (hr := hlt)) (k := ?_)) | (refine za (id := 4) ?_; refine yv (zan (j := k)) (k := ?_); refine yv (zaa (B := natC x) (hv := hrow)) (k := ?_); (refine zm ?_; intro _); refine yn (zn (n := x)) (k := ?_)) | (refine za (id := 5) ?_; refine zb ?_; refine yv (zl (B := natC x)) (k := ?_); refine yv (zcc (fst := []) (cap := [.pointer (some ⟨b4, 0, none⟩), .pointer (some ⟨b3, 0, none⟩)]) (hc := fun w' X hk hh => zio p q l x b4 b3 f true w' hen hfx (zL (hh.has (r := .blk b4 96 [.func (.func f) #[] #[]]) (by exact Has.append Has.go)) Seg.all 0 _ rfl) (zL (hh.has (r := .blk b3 88 (safeC p q l)) (by exact Has.append Has.go)) Seg.all))) (k := ?_); refine zau ?_) | (refine za (id := 7) ?_; refine zah ?_; refine zb ?_) | fail)
      refine zI (k + 1) ⟨h, by rw [htk, List.all_append, hall, List.all_cons, hcx]; rfl⟩ ?_ ?_ ?_
      · show n - (k + 1) < n - k; omega
      · exact Sub.go
      · exact SubR.go2
    | false =>
      rw [hcx] at hfx
      have hno : xs.all cond = false := by
        rw [List.all_eq_false]; exact ⟨x, List.mem_of_getElem? hx, by rw [hcx]; decide⟩
      rw [hno]
      repeat' (first | refine zh ?_ | refine zf ?_ | refine zw rfl ?_ | refine zu ?_ | refine zr ?_ | refine zp ?_ | refine ze ?_ | refine zj ?_ | refine zy ?_ | refine zad ?_ | (refine za (id := 3) ?_; refine yv (zS (hr := hlt)) (k := ?_)) | (refine za (id := 4) ?_; refine yv (zan (j := k)) (k := ?_); refine yv (zaa (B := natC x) (hv := hrow)) (k := ?_); (refine zm ?_; intro _); refine yn (zn (n := x)) (k := ?_)) | (refine za (id := 5) ?_; refine zb ?_; refine yv (zl (B := natC x)) (k := ?_); refine yv (zcc (fst := []) (cap := [.pointer (some ⟨b4, 0, none⟩), .pointer (some ⟨b3, 0, none⟩)]) (hc := fun w' X hk hh => zio p q l x b4 b3 f false w' hen hfx (zL (hh.has (r := .blk b4 96 [.func (.func f) #[] #[]]) (by exact Has.append Has.go)) Seg.all 0 _ rfl) (zL (hh.has (r := .blk b3 88 (safeC p q l)) (by exact Has.append Has.go)) Seg.all))) (k := ?_); refine zau ?_) | (refine za (id := 6) ?_; refine zd ?_) | fail)
      exact ret1 rfl (resTmp rfl) SubR.nil ⟨rfl, rfl⟩
  · obtain rfl : k = n := by omega
    rw [List.take_of_length_le (by omega)] at hall
    have hlt : decide ((k : Int) < (k : Int)) = false := decide_eq_false (by omega)
    rw [hall]
    repeat' (first | refine zh ?_ | refine zf ?_ | refine zt rfl ?_ | refine zp ?_ | refine zE ?_ | refine ze ?_ | refine zj ?_ | (refine za (id := 3) ?_; refine yv (zS (hr := hlt)) (k := ?_)) | (refine za (id := 8) ?_; refine zd ?_) | fail)
    exact ret1 rfl (resTmp rfl) SubR.nil ⟨rfl, rfl⟩
theorem zkS (p q l x : Nat) (w : World) (hx : x < 18446744073709551616 ^ 16) (hl : nd 256 x ≤ l) (hl2 : l ≤ 1000) :
    Sy.Fn Tryz.prog 115 [safeV p q l, natV x] w No (RowOf 5 l ((fixB l x).map v8)) := by
  refine zq Tryz.func115 rfl Tryz.ntmps115 (by simp) Holds.nil ?_
  have lS := zG p q l
  have lx := zg x
  have hsl := zaR p q l
  have hby := fun w' => zd3 x w' hx
  have hbl := zcL x
  have hys : List.replicate (l - nd 256 x) (Value.int IntKind.u8 0) ++ (byt x).map v8 = (fixB l x).map v8 := by
    unfold fixB; rw [List.map_append, List.map_replicate]; rfl
  generalize fixB l x = F at *
  generalize byt x = D at *
  generalize nd 256 x = n at *
  have hsub : IntKind.i64.wrap ((l : Int) - (n : Int)) = ((l - n : Nat) : Int) := by rw [IntWalk.i64_in _ (by omega)]; omega
  have hsplit : List.replicate l (Value.int IntKind.u8 0) = List.replicate (l - n) (Value.int IntKind.u8 0) ++ List.replicate n (Value.int IntKind.u8 0) := by
    rw [List.replicate_append_replicate]; congr 1; omega
  unfold RowOf
  repeat' (first | refine zh ?_ | refine zf ?_ | refine ze ?_ | refine zj ?_ | (refine za (id := 0) ?_; (refine zm ?_; intro _); (refine zm ?_; intro _); refine zd ?_) | (refine za (id := 1) ?_; refine yv (zl (B := natC x)) (k := ?_); (refine ys (zF (f := 17) (hc := fun w' X hk hh => hby w')) (k := ?_); rintro _ _ ⟨R, rfl, bB, rfl, rfl⟩); refine zd ?_) | (refine za (id := 2) ?_; refine zD ?_; refine yv (zP (hv := hsl)) (k := ?_); refine zb ?_; refine zA ?_; refine yv (zM (hr := hsub)) (k := ?_); refine zD ?_; refine yv (zP (hv := hsl)) (k := ?_)) | fail)
  refine ys (ziZ (n := l - n) (c' := l) (Nat.sub_le _ _)) (k := ?_)
  rintro _ _ ⟨bz, rfl, rfl⟩
  rw [hsplit]
  repeat' (first | refine zf ?_ | refine zp ?_ | refine ze ?_ | refine zj ?_ | (refine zT ?_; first | (refine ys (OpT.conv (ziV (n := l - n) (c := l) (s := 1) Rem.here (by rw [List.length_append, List.length_replicate, List.length_replicate]; omega) (Nat.sub_le _ _) (by unfold maxLen; omega) (by rw [List.length_replicate, Nat.mul_one])) (zaA (k := l - n) (m := n) (km := l) (hL := Rem.here) (hr := Rd.of (Reads.blk (C := D.map v8) (T := 5) Has.go Seg.all)) (hn := by rw [List.length_map, hbl, Nat.mul_one]) (hkm := by omega) (hys := hys))) (k := ?_); rintro _ _ ⟨rfl, aD, cD, rfl⟩) | refine zd ?_ | refine zb ?_ | fail) | fail)
  exact ret1 rfl (resTmp rfl) (by exact SubR.go2) ⟨_, _, rfl, rfl⟩
end Go.Proofs.YtjidkoabdmjgkaaGreatDoor
end
