/- The specification of layer sign, walked: the challenge and Sign. -/
import Derived.Test.YtjidkoabdmjgkaaGreatDoorXJ44
import Derived.Test.YtjidkoabdmjgkaaGreatDoorXJ39
import Derived.Test.YtjidkoabdmjgkaaGreatDoorXJ45
set_option linter.all false
section
namespace Go.Proofs.YtjidkoabdmjgkaaGreatDoor
open Go Go.Sy Go.Nt Go.RowKit
attribute [local irreducible] Sy SyL SyX Sy.Fn callFunc natC rowN refC iC gP gQ gL memB safeC fixB gnum gel gsca chal Sh.sum
set_option maxRecDepth 10000
theorem zlG {x : Nat} (h : x < 18446744073709551616 ^ 16) : nd 65536 x < 20000 := Nat.lt_of_le_of_lt (ndW h) (by decide)
end Go.Proofs.YtjidkoabdmjgkaaGreatDoor
end
section
namespace Go.Proofs.YtjidkoabdmjgkaaGreatDoor
open Go Go.Sy Go.Nt Go.RowKit
attribute [local irreducible] Sy SyL SyX Sy.Fn callFunc natC rowN refC iC gP gQ gL memB safeC fixB gnum gel gsca chal Sh.sum glen
set_option maxRecDepth 10000
theorem zkM {i x : Nat} (h0 : 1 ≤ i) (h5 : i ≤ 4) (h : mem i x) (e : Nat) : mem i (x ^ e % gP i) := zhq h0 h5 (by
  have := (zee h0 h5 h.2.2).pow e
  rwa [Nat.one_pow, ← Nat.pow_mul, Nat.mul_comm, Nat.pow_mul] at this)
theorem zme {i x y : Nat} (h0 : 1 ≤ i) (h5 : i ≤ 4) (h : mem i x) (h' : mem i y) : mem i (x * y % gP i) := zhq h0 h5 (by
  have := (zee h0 h5 h.2.2).mul (zee h0 h5 h'.2.2)
  rwa [Nat.mul_one, ← Nat.mul_pow] at this)
theorem zhs (x y : Nat) : decide (cmpI x y < 0) = decide (x < y) := by
  apply decide_eq_decide.2
  unfold cmpI
  constructor
  · intro h
    rcases Nat.lt_trichotomy x y with h1 | h1 | h1
    · exact h1
    · rw [if_neg (by omega), if_pos h1] at h; omega
    · rw [if_neg (by omega), if_neg (by omega)] at h; omega
  · intro h; rw [if_pos h]; decide
theorem zlr (x y : Nat) : decide (cmpI x y = 0) = decide (x = y) := by
  apply decide_eq_decide.2
  unfold cmpI
  constructor
  · intro h
    rcases Nat.lt_trichotomy x y with h1 | h1 | h1
    · rw [if_pos h1] at h; omega
    · exact h1
    · rw [if_neg (by omega), if_neg (by omega)] at h; omega
  · rintro rfl; rw [if_neg (Nat.lt_irrefl _), if_pos rfl]
theorem ziL (b n c : Nat) (fs : List Value) (bs : List Bool) (w : World) (hn : fs.length = n) (hb : bs.length = n) (hn2 : n ≤ 1000) (hs : w.rangeAt b 0 fs)
    (hf : ∀ k v, bs[k]? = some v → (bs.take k).all id = true → ∃ (f : Nat) (cap : List Value), fs[k]? = some (.func (.func f) #[] cap.toArray) ∧ (∀ args w, (callFunc f args).run Tryz.prog w = .ok (.enter f args) w) ∧ ∀ w', Keep No w w' → Sy.Fn Tryz.prog f cap w' No (Gives (.bool v))) :
    Sy.Fn Tryz.prog 47 [.slice (some ⟨b, 0, none⟩) n c] w No (Gives (.bool (bs.all id))) := by
  refine zq Tryz.func47 rfl Tryz.ntmps47 (by simp) Holds.nil ?_
  repeat' (first | refine zh ?_ | refine zf ?_ | refine zu ?_ | refine ze ?_ | refine zj ?_ | (refine za (id := 0) ?_; refine zd ?_) | (refine za (id := 1) ?_; refine zb ?_; refine zA ?_; refine zb ?_) | fail)
  refine zQ (γ := Nat) (fun k => [(5, .slice (some ⟨b, 0, none⟩) n c), (6, .int .i64 n), (7, .int .i64 k)]) (fun _ => []) (fun k => k ≤ n ∧ (bs.take k).all id = true) (fun k => n - k) 0 ⟨Nat.zero_le _, rfl⟩ ?_ ?_ ?_
  · exact Sub.go
  · exact SubR.go
  rintro k ⟨hk, hall⟩
  rcases Nat.lt_or_ge k n with h | h
  · obtain ⟨v, hv⟩ : ∃ v, bs[k]? = some v := ⟨_, List.getElem?_eq_getElem (by omega)⟩
    obtain ⟨f, cap, h1, hen, hc⟩ := hf k v hv hall
    have hcell : w.cell? ⟨b, 0 + k, none⟩ = some (.func (.func f) #[] cap.toArray) := hs k _ h1
    have hlt : decide ((k : Int) < (n : Int)) = true := decide_eq_true (by omega)
    have hadd : IntKind.i64.wrap ((k : Int) + 1) = ((k + 1 : Nat) : Int) := by rw [IntWalk.i64_in _ (by omega)]; omega
    have htk : bs.take (k + 1) = bs.take k ++ [v] := by rw [List.take_succ, hv]; rfl
    cases v with
    | false =>
      have hno : bs.all id = false := by
        rw [List.all_eq_false]; exact ⟨false, List.mem_of_getElem? hv, by decide⟩
      rw [hno]
      repeat' (first | refine zh ?_ | refine zf ?_ | refine zw rfl ?_ | refine zu ?_ | refine zr ?_ | refine zp ?_ | refine ze ?_ | refine zj ?_ | refine zy ?_ | refine zad ?_ | (refine za (id := 2) ?_; refine yv (zS (hr := hlt)) (k := ?_)) | (refine za (id := 3) ?_; refine yv (zaJ (j := k)) (k := ?_); refine yv (zN (hv := hcell)) (k := ?_); refine zd ?_) | (refine za (id := 4) ?_; refine zb ?_; (refine yv (zi (f := f) (cap := cap) (vs := []) (he := hen) (hc := fun w' X hk hh => hc w' hk)) (k := ?_)); refine zau ?_) | (refine za (id := 5) ?_; refine zd ?_) | fail)
      exact ret1 rfl (resTmp rfl) SubR.nil ⟨rfl, rfl⟩
    | true =>
      repeat' (first | refine zh ?_ | refine zf ?_ | refine zw rfl ?_ | refine zt rfl ?_ | refine zu ?_ | refine zr ?_ | refine ze ?_ | refine zj ?_ | (refine za (id := 2) ?_; refine yv (zS (hr := hlt)) (k := ?_)) | (refine za (id := 3) ?_; refine yv (zaJ (j := k)) (k := ?_); refine yv (zN (hv := hcell)) (k := ?_); refine zd ?_) | (refine za (id := 4) ?_; refine zb ?_; (refine yv (zi (f := f) (cap := cap) (vs := []) (he := hen) (hc := fun w' X hk hh => hc w' hk)) (k := ?_)); refine zau ?_) | (refine za (id := 6) ?_; refine yv (zK (hr := hadd)) (k := ?_); refine zb ?_) | fail)
      refine zI (k + 1) ⟨h, by rw [htk, List.all_append, hall]; rfl⟩ ?_ ?_ ?_
      · show n - (k + 1) < n - k; omega
      · exact Sub.go
      · exact SubR.go2
  · obtain rfl : k = n := by omega
    rw [List.take_of_length_le (by omega)] at hall
    have hlt : decide ((k : Int) < (k : Int)) = false := decide_eq_false (by omega)
    rw [hall]
    repeat' (first | refine zh ?_ | refine zf ?_ | refine zt rfl ?_ | refine zp ?_ | refine zE ?_ | refine ze ?_ | refine zj ?_ | (refine za (id := 2) ?_; refine yv (zS (hr := hlt)) (k := ?_)) | (refine za (id := 7) ?_; refine zd ?_) | fail)
    exact ret1 rfl (resTmp rfl) SubR.nil ⟨rfl, rfl⟩
theorem ziz (b9 k cP : Nat) (aP : Option Addr) (w : World) (h9 : w.cell? ⟨b9, 0, none⟩ = some (.slice aP k cP)) :
    Sy.Fn Tryz.prog 48 [.pointer (some ⟨b9, 0, none⟩)] w No (Gives (.bool (decide ((k : Int) = 2)))) := by
  refine zq Tryz.func48 rfl Tryz.ntmps48 (by simp) Holds.nil ?_
  repeat' (first | refine zh ?_ | refine zf ?_ | refine zp ?_ | refine ze ?_ | refine zj ?_ | (refine za (id := 0) ?_; refine zd ?_) | (refine za (id := 1) ?_; refine yv (zN (hv := h9)) (k := ?_); refine zA ?_; refine yv (z3 (hr := rfl)) (k := ?_); refine zd ?_) | fail)
  exact ret1 rfl (resTmp rfl) SubR.nil ⟨rfl, rfl⟩
theorem zl4 (b9 bP oP cP b12 x0 x1 q : Nat) (w : World) (h9 : w.cell? ⟨b9, 0, none⟩ = some (.slice (some ⟨bP, oP, none⟩) 2 cP)) (hr : w.rangeAt bP oP (rowN [x0, x1])) (h12 : w.rangeAt b12 0 (natC q))
    (hx : x0 < 18446744073709551616 ^ 16) (hq : q < 18446744073709551616 ^ 16) :
    Sy.Fn Tryz.prog 49 [.pointer (some ⟨b9, 0, none⟩), .pointer (some ⟨b12, 0, none⟩)] w No (Gives (.bool (decide (x0 < q)))) := by
  refine zq Tryz.func49 rfl Tryz.ntmps49 (by simp) Holds.nil ?_
  have hr0 : w.rangeAt bP (oP + 0 * 16) (natC x0) := fun j v hj => by
    have := hr (0 * 16 + j) v (zbN (l := [x0, x1]) (i := 0) rfl j v hj)
    rwa [← Nat.add_assoc] at this
  have hl0 := zg x0
  have hlq := zg q
  have hc := fun w' => zbA x0 q w' hx hq
  have hd := zhs x0 q
  repeat' (first | refine zh ?_ | refine zf ?_ | refine zp ?_ | refine ze ?_ | refine zj ?_ | (refine za (id := 0) ?_; refine zd ?_) | (refine zV (id := 1) 4 [[], [0], [0, 1], [], [0, 1, 2, 3], [0, 1, 2, 3, 4], [0, 1, 2, 3, 4, 5]] mixed ?_ ?_; kernel_rfl; refine dc (fun _ _ => zN (hv := h9)) (k := ?_); refine dc (fun _ _ => zan (j := 0)) (k := ?_); refine dc (fun _ _ => zaa (B := natC x0) (hv := hr0)) (k := ?_); refine dc (fun _ _ => zaa (B := natC q) (hv := h12)) (k := ?_); refine z7 ?_; refine yv (zi (hc := fun _ _ _ _ => (hc _))) (k := ?_); refine yv (zS (hr := hd)) (k := ?_); refine zd ?_) | fail)
  exact ret1 rfl (resTmp rfl) SubR.nil ⟨rfl, rfl⟩
theorem zml (b9 bP oP cP b12 x0 x1 q : Nat) (w : World) (h9 : w.cell? ⟨b9, 0, none⟩ = some (.slice (some ⟨bP, oP, none⟩) 2 cP)) (hr : w.rangeAt bP oP (rowN [x0, x1])) (h12 : w.rangeAt b12 0 (natC q))
    (hx : x1 < 18446744073709551616 ^ 16) (hq : q < 18446744073709551616 ^ 16) :
    Sy.Fn Tryz.prog 51 [.pointer (some ⟨b9, 0, none⟩), .pointer (some ⟨b12, 0, none⟩)] w No (Gives (.bool (decide (x1 < q)))) := by
  refine zq Tryz.func51 rfl Tryz.ntmps51 (by simp) Holds.nil ?_
  have hr0 : w.rangeAt bP (oP + 1 * 16) (natC x1) := fun j v hj => by
    have := hr (1 * 16 + j) v (zbN (l := [x0, x1]) (i := 1) rfl j v hj)
    rwa [← Nat.add_assoc] at this
  have hl0 := zg x1
  have hlq := zg q
  have hc := fun w' => zbA x1 q w' hx hq
  have hd := zhs x1 q
  repeat' (first | refine zh ?_ | refine zf ?_ | refine zp ?_ | refine ze ?_ | refine zj ?_ | (refine za (id := 0) ?_; refine zd ?_) | (refine zV (id := 1) 4 [[], [0], [0, 1], [], [0, 1, 2, 3], [0, 1, 2, 3, 4], [0, 1, 2, 3, 4, 5]] mixed ?_ ?_; kernel_rfl; refine dc (fun _ _ => zN (hv := h9)) (k := ?_); refine dc (fun _ _ => zan (j := 1)) (k := ?_); refine dc (fun _ _ => zaa (B := natC x1) (hv := hr0)) (k := ?_); refine dc (fun _ _ => zaa (B := natC q) (hv := h12)) (k := ?_); refine z7 ?_; refine yv (zi (hc := fun _ _ _ _ => (hc _))) (k := ?_); refine yv (zS (hr := hd)) (k := ?_); refine zd ?_) | fail)
  exact ret1 rfl (resTmp rfl) SubR.nil ⟨rfl, rfl⟩
set_option maxHeartbeats 1000000 in
theorem zl7 (i b4 b10 b9 bP oP cP b12 b5 b6 x0 x1 y pn pc mn mc : Nat) (pa ma : Option Addr) (pl ml : List UInt8) (w : World) (h0 : 1 ≤ i) (h5 : i ≤ 4) (hG : GT w) (hT : Tab w No) (h4 : w.cell? ⟨b4, 0, none⟩ = some (.int .i64 (i : Int))) (h10 : w.rangeAt b10 0 (natC y))
    (h9 : w.cell? ⟨b9, 0, none⟩ = some (.slice (some ⟨bP, oP, none⟩) 2 cP)) (hr : w.rangeAt bP oP (rowN [x0, x1])) (h12 : w.rangeAt b12 0 (natC (gQ i))) (hp5 : w.cell? ⟨b5, 0, none⟩ = some (.slice pa pn pc)) (hm6 : w.cell? ⟨b6, 0, none⟩ = some (.slice ma mn mc))
    (hp : (⟨pa, pn, pc, pl⟩ : Bs).ok w) (hm : (⟨ma, mn, mc, ml⟩ : Bs).ok w) (hpn : pn ≤ 1000) (hmn : mn ≤ 100000) (hx0 : x0 < gQ i) (hx1 : x1 < gQ i) (hy : memB (gP i) (gQ i) y = true) :
    Sy.Fn Tryz.prog 52 [.pointer (some ⟨b4, 0, none⟩), .pointer (some ⟨b10, 0, none⟩), .pointer (some ⟨b9, 0, none⟩), .pointer (some ⟨b12, 0, none⟩), .pointer (some ⟨b5, 0, none⟩), .pointer (some ⟨b6, 0, none⟩)] w No (Gives (.bool (decide (chal i pl (sR i y x0 x1) ml = x0)))) := by
  refine zq Tryz.func52 rfl Tryz.ntmps52 (by simp) Holds.nil ?_
  have hr0 : w.rangeAt bP (oP + 0 * 16) (natC x0) := fun j v hj => by
    have := hr (0 * 16 + j) v (zbN (l := [x0, x1]) (i := 0) rfl j v hj)
    rwa [← Nat.add_assoc] at this
  have hr1 : w.rangeAt bP (oP + 1 * 16) (natC x1) := fun j v hj => by
    have := hr (1 * 16 + j) v (zbN (l := [x0, x1]) (i := 1) rfl j v hj)
    rwa [← Nat.add_assoc] at this
  have hQ0 : 0 < gQ i := Nat.lt_of_lt_of_le (by decide) (zak i h0 h5)
  have hW := zaE i h0 h5
  have hx0W := Nat.lt_trans hx0 hW
  have hx1W := Nat.lt_trans hx1 hW
  have hyW := Nat.lt_trans (zbE hy) (zaH i h0 h5)
  have hsub := fun w' => zmu 0 x0 (gQ i) w' (Nat.lt_of_le_of_lt (Nat.zero_le _) hx0W) hx0W hW
  unfold modR at hsub
  rw [if_neg (by omega)] at hsub
  have hdm : dm (gQ i) 0 x0 = (gQ i - x0) % gQ i := by unfold dm; rw [Nat.mod_eq_of_lt hx0, Nat.zero_add]
  rw [hdm] at hsub
  have heq : (gQ i - x0) % gQ i < gQ i := Nat.mod_lt _ hQ0
  have hexp := fun w' (hk : Keep No w w') => zmI i y ((gQ i - x0) % gQ i) w' h0 h5 (hG.to hk) hyW (Nat.lt_trans heq hW) hy heq
  have hmb : memB (gP i) (gQ i) (y ^ ((gQ i - x0) % gQ i) % gP i) = true := zbs.2 (zkM h0 h5 (zbs.1 hy) _)
  have hpow := fun w' (hk : Keep No w w') => zdg i x1 w' h0 h5 (hG.to hk) hx1W hx1
  have hmp : memB (gP i) (gQ i) (4 ^ x1 % gP i) = true := zbs.2 (zdw h0 h5 _)
  have hmul := fun w' (hk : Keep No w w') => zlT i (4 ^ x1 % gP i) (y ^ ((gQ i - x0) % gQ i) % gP i) w' h0 h5 (hG.to hk) (Nat.lt_trans (zbE hmp) (zaH i h0 h5)) (Nat.lt_trans (zbE hmb) (zaH i h0 h5)) (by rw [hmp, hmb]; rfl)
  have hmr : memB (gP i) (gQ i) (sR i y x0 x1) = true := zbs.2 (zme h0 h5 (zbs.1 hmp) (zbs.1 hmb))
  have hR : sR i y x0 x1 = (4 ^ x1 % gP i) * (y ^ ((gQ i - x0) % gQ i) % gP i) % gP i := rfl
  rw [← hR] at hmul
  have hch := fun w' (hk : Keep No w w') => zeE i pa ma pn pc mn mc (sR i y x0 x1) pl ml w' h0 h5 (hG.to hk) (hT.no hk) (hp.keep hk) (hm.keep hk) hpn hmn hmr
  have hcq : chal i pl (sR i y x0 x1) ml < gQ i := zeO h0 h5 _ _ _
  have hcm := fun w' => zbA (chal i pl (sR i y x0 x1) ml) x0 w' (Nat.lt_trans hcq hW) hx0W
  have hcz := zlr (chal i pl (sR i y x0 x1) ml) x0
  have hd1 := fun w' => zbk ((gQ i - x0) % gQ i) 0 w'
  have hd2 := fun w' => zbk (y ^ ((gQ i - x0) % gQ i) % gP i) 0 w'
  have hd3 := fun w' => zbk (4 ^ x1 % gP i) 0 w'
  have hd4 := fun w' => zbk (sR i y x0 x1) 0 w'
  have l0 := zg x0
  have l1 := zg x1
  have ly := zg y
  have lq := zg (gQ i)
  have lb := zg (y ^ ((gQ i - x0) % gQ i) % gP i)
  have lr := zg (sR i y x0 x1)
  generalize chal i pl (sR i y x0 x1) ml = e at *
  generalize sR i y x0 x1 = r at *
  generalize 4 ^ x1 % gP i = ps at *
  generalize y ^ ((gQ i - x0) % gQ i) % gP i = back at *
  generalize (gQ i - x0) % gQ i = ne at *
  generalize gQ i = q at *
  repeat' (first | refine zh ?_ | refine zf ?_ | refine ze ?_ | refine zj ?_ | (refine za (id := 0) ?_; refine zd ?_) | fail)
  refine zaV (id := 1) mixed ?_
  (refine zaT 16 16 [[], [], [], [], [3], [3, 4], [], [2, 3, 4, 5, 6], [2, 3, 4, 5, 6, 7], [2, 3, 4, 5, 6, 7], [2, 3, 4, 5, 6, 7, 8, 9], [0, 1, 2, 3, 4, 5, 6, 7, 8, 9, 10], [0, 1, 2, 3, 4, 5, 6, 7, 8, 9, 10, 11], [0, 1, 2, 3, 4, 5, 6, 7, 8, 9, 10, 11], [0, 1, 2, 3, 4, 5, 6, 7, 8, 9, 10, 11, 12, 13], [], [0, 1, 2, 3, 4, 5, 6, 7, 8, 9, 10, 11, 12, 13, 14, 15]] [[], [], [], [], [], [], [], [], [], [], [], [], [], [], [], [], []] none rfl ?_ ?_ ?_; kernel_rfl; kernel_rfl; refine dcE (fun _ _ => zN (hv := h4)) (k := ?_); refine dcE (fun _ _ => zaa (B := natC y) (hv := h10)) (k := ?_); refine dcE (fun _ _ => zaY) (k := ?_); refine dcE (fun _ _ => zN (hv := h9)) (k := ?_); refine dcE (fun _ _ => zan (j := 0)) (k := ?_); refine dcE (fun _ _ => zaa (B := natC x0) (hv := hr0)) (k := ?_); refine dcE (fun _ _ => zaa (B := natC q) (hv := h12)) (k := ?_); refine dcE (fun _ _ => zi (hc := fun _ _ _ _ => (hsub _))) (k := ?_); refine zar ?_; refine zar ?_; refine dcE (fun _ _ => zi (hc := fun _ _ _ _ => (hd1 _))) (k := ?_); refine dcE (fun _ _ => zi (f := 53) (hc := fun w' _ hk _ => hexp w' hk)) (k := ?_); refine zar ?_; refine zar ?_; refine dcE (fun _ _ => zi (hc := fun _ _ _ _ => (hd2 _))) (k := ?_); try refine dh_0nE (h := ?_))
  refine zbu (R := fun _ => PtrOf 43 (List.replicate 16 (.int .u64 0))) (fun _ _ _ => rfl) (fun ρ hρ => OpT.mono zb8 fun v L' h => ?_) (h := ?_)
  · obtain ⟨b, rfl, rfl⟩ := h
    exact ⟨[_], rfl, b, rfl, rfl⟩
  refine zbI (h := ?_)
  rintro ρ ⟨⟨b7, p1, p2⟩, -⟩
  (refine zaU [[], [], [], [], [3], [3, 4], [], [2, 3, 4, 5, 6], [2, 3, 4, 5, 6, 7], [2, 3, 4, 5, 6, 7], [2, 3, 4, 5, 6, 7, 8, 9], [0, 1, 2, 3, 4, 5, 6, 7, 8, 9, 10], [0, 1, 2, 3, 4, 5, 6, 7, 8, 9, 10, 11], [0, 1, 2, 3, 4, 5, 6, 7, 8, 9, 10, 11], [0, 1, 2, 3, 4, 5, 6, 7, 8, 9, 10, 11, 12, 13], [], [0, 1, 2, 3, 4, 5, 6, 7, 8, 9, 10, 11, 12, 13, 14, 15]] ?_ ?_; kernel_rfl)
  refine SyL.weaken (fr' := [(7, .pointer (some ⟨b7, 0, none⟩)), (23, natV back), (0, .pointer (some ⟨b4, 0, none⟩)), (2, .pointer (some ⟨b9, 0, none⟩)), (4, .pointer (some ⟨b5, 0, none⟩)), (5, .pointer (some ⟨b6, 0, none⟩))]) (L' := [.blk b7 43 (List.replicate 16 (.int .u64 0))]) ?_ ?_ ?_
  rotate_left
  · (repeat' (first | exact Sub.nil | refine Sub.cons rfl ?_ ?_ | rfl))
    exact p1
  · show SubR _ ((ρ 15).2 ++ _)
    rw [p2]
    exact SubR.go2
  repeat' (first | refine zh ?_ | refine zf ?_ | refine ze ?_ | refine zj ?_ | (refine zT ?_; first | refine yn (zn (n := back)) (k := ?_) | fail) | fail)
  refine zaV (id := 2) mixed ?_
  (refine zaT 15 15 [[], [], [], [2], [2, 3], [1, 2, 3, 4], [1, 2, 3, 4, 5], [1, 2, 3, 4, 5], [1, 2, 3, 4, 5, 6, 7], [], [0, 1, 2, 3, 4, 5, 6, 7, 8, 9], [0, 1, 2, 3, 4, 5, 6, 7, 8, 9, 10], [0, 1, 2, 3, 4, 5, 6, 7, 8, 9, 10], [0, 1, 2, 3, 4, 5, 6, 7, 8, 9, 10, 11, 12], [], [0, 1, 2, 3, 4, 5, 6, 7, 8, 9, 10, 11, 12, 13, 14]] [[], [], [], [], [], [], [], [], [], [], [], [], [], [], [], []] none rfl ?_ ?_ ?_; kernel_rfl; kernel_rfl; refine dcE (fun _ _ => zN (hv := h4)) (k := ?_); refine dcE (fun _ _ => zN (hv := h4)) (k := ?_); refine dcE (fun _ _ => zN (hv := h9)) (k := ?_); refine dcE (fun _ _ => zan (j := 1)) (k := ?_); refine dcE (fun _ _ => zaa (B := natC x1) (hv := hr1)) (k := ?_); refine dcE (fun _ _ => zi (f := 33) (hc := fun w' _ hk _ => hpow w' hk)) (k := ?_); refine zar ?_; refine zar ?_; refine dcE (fun _ _ => zi (hc := fun _ _ _ _ => (hd3 _))) (k := ?_); refine dcE (fun _ _ => zl (B := natC back)) (k := ?_); refine dcE (fun _ _ => zi (f := 55) (hc := fun w' _ hk _ => hmul w' hk)) (k := ?_); refine zar ?_; refine zar ?_; refine dcE (fun _ _ => zi (hc := fun _ _ _ _ => (hd4 _))) (k := ?_); try refine dh_0nE (h := ?_))
  refine zbu (R := fun _ => PtrOf 43 (List.replicate 16 (.int .u64 0))) (fun _ _ _ => rfl) (fun ρ hρ => OpT.mono zb8 fun v L' h => ?_) (h := ?_)
  · obtain ⟨b, rfl, rfl⟩ := h
    exact ⟨[_], rfl, b, rfl, rfl⟩
  refine zbI (h := ?_)
  rintro ρ ⟨⟨b8, p1, p2⟩, -⟩
  (refine zaU [[], [], [], [2], [2, 3], [1, 2, 3, 4], [1, 2, 3, 4, 5], [1, 2, 3, 4, 5], [1, 2, 3, 4, 5, 6, 7], [], [0, 1, 2, 3, 4, 5, 6, 7, 8, 9], [0, 1, 2, 3, 4, 5, 6, 7, 8, 9, 10], [0, 1, 2, 3, 4, 5, 6, 7, 8, 9, 10], [0, 1, 2, 3, 4, 5, 6, 7, 8, 9, 10, 11, 12], [], [0, 1, 2, 3, 4, 5, 6, 7, 8, 9, 10, 11, 12, 13, 14]] ?_ ?_; kernel_rfl)
  refine SyL.weaken (fr' := [(8, .pointer (some ⟨b8, 0, none⟩)), (37, natV r), (0, .pointer (some ⟨b4, 0, none⟩)), (2, .pointer (some ⟨b9, 0, none⟩)), (4, .pointer (some ⟨b5, 0, none⟩)), (5, .pointer (some ⟨b6, 0, none⟩))]) (L' := [.blk b8 43 (List.replicate 16 (.int .u64 0))]) ?_ ?_ ?_
  rotate_left
  · (repeat' (first | exact Sub.nil | refine Sub.cons rfl ?_ ?_ | rfl))
    exact p1
  · show SubR _ ((ρ 14).2 ++ _)
    rw [p2]
    exact SubR.go2
  repeat' (first | refine zh ?_ | refine zf ?_ | refine zp ?_ | refine ze ?_ | refine zj ?_ | (refine zV (id := 3) 8 [[], [], [], [], [0, 1, 2, 3], [], [5], [5, 6], [0, 1, 2, 3, 4, 5, 6, 7], [0, 1, 2, 3, 4, 5, 6, 7, 8], [0, 1, 2, 3, 4, 5, 6, 7, 8, 9]] mixed ?_ ?_; kernel_rfl; refine dc (fun _ _ => zN (hv := h4)) (k := ?_); refine dc (fun _ _ => zN (hv := hp5)) (k := ?_); refine dc (fun _ _ => zl (B := natC r)) (k := ?_); refine dc (fun _ _ => zN (hv := hm6)) (k := ?_); refine dc (fun _ _ => zi (f := 29) (hc := fun w' _ hk _ => hch w' hk)) (k := ?_); refine dc (fun _ _ => zN (hv := h9)) (k := ?_); refine dc (fun _ _ => zan (j := 0)) (k := ?_); refine dc (fun _ _ => zaa (B := natC x0) (hv := hr0)) (k := ?_); refine z7 ?_; refine yv (zi (hc := fun _ _ _ _ => (hcm _))) (k := ?_); refine yv (z3 (hr := hcz)) (k := ?_); refine zd ?_) | (refine zT ?_; first | refine yn (zn (n := r)) (k := ?_) | fail) | fail)
  exact ret1 rfl (resTmp rfl) SubR.nil ⟨rfl, rfl⟩
end Go.Proofs.YtjidkoabdmjgkaaGreatDoor
end
