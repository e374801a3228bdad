/- The statements about layer sign, walked: SignParts, and the specification's Parts. -/
import Derived.Test.YtjidkoabdmjgkaaGreatDoorXJ48
set_option linter.all false
namespace Go.Proofs.YtjidkoabdmjgkaaGreatDoor
open Go Go.Sy Go.Nt Go.RowKit
attribute [local irreducible] Sy SyL SyX Sy.Fn callFunc natC rowN refC iC gP gQ gL memB safeC fixB gnum gel gsca chal Sh.sum glen sPriv sPub sSig sVer byt
set_option maxRecDepth 10000
theorem zik (z : Int) (a : Option Addr) (n c : Nat) (l : List UInt8) (w : World) (hl : l.length = n) (h : glen z = 0 ∨ n ≠ 2 * glen z) :
    Sy.Fn Tryz.prog 16 [.int .i64 z, .slice a n c] w No (Gives (.slice none 0 0)) := by
  refine zq Tryz.func16 rfl Tryz.ntmps16 (by simp) Holds.nil ?_
  have hln := fun w' => zgo z w'
  by_cases h0 : glen z = 0
  · rw [h0] at hln
    repeat' (first | refine zh ?_ | refine zf ?_ | refine zw rfl ?_ | refine zp ?_ | refine ze ?_ | refine zj ?_ | refine zy ?_ | (refine za (id := 0) ?_; refine zd ?_) | (refine za (id := 1) ?_; refine zb ?_; refine yv (zi (hc := fun _ _ _ _ => (hln _))) (k := ?_); refine zai ?_; refine zb ?_; refine zo rfl rfl rfl ?_; refine zo rfl rfl rfl ?_; refine zo rfl rfl rfl ?_; refine zo rfl rfl rfl ?_; refine zo rfl rfl rfl ?_; refine zx ?_) | (refine za (id := 2) ?_; refine zd ?_) | fail)
    exact ret1 rfl (resTmp rfl) SubR.nil ⟨rfl, rfl⟩
  · have h1 := h.resolve_left h0
    have g1 : decide (((2 * glen z : Nat) : Int) = 0) = false := decide_eq_false (by omega)
    have g2 : decide ((n : Int) ≠ ((2 * glen z : Nat) : Int)) = true := decide_eq_true (fun h => h1 (by omega))
    generalize ((2 * glen z : Nat) : Int) = m at *
    repeat' (first | refine zh ?_ | refine zf ?_ | refine zw rfl ?_ | refine zp ?_ | refine ze ?_ | refine zj ?_ | refine zy ?_ | (refine za (id := 0) ?_; refine zd ?_) | (refine za (id := 1) ?_; refine zb ?_; refine yv (zi (hc := fun _ _ _ _ => (hln _))) (k := ?_); refine yv (z3 (hr := g1)) (k := ?_); refine zb ?_; refine zb ?_; refine zA ?_; refine zb ?_; refine yv (zi (hc := fun _ _ _ _ => (hln _))) (k := ?_); refine yv (zax (hr := g2)) (k := ?_); refine zx ?_) | (refine za (id := 2) ?_; refine zd ?_) | fail)
    exact ret1 rfl (resTmp rfl) SubR.nil ⟨rfl, rfl⟩
def RowX (l : List UInt8) (n : Nat) (v : Value) (R : List Res) : Prop := ∃ a c, v = .slice a n c ∧ R = [.row (.slice a n c) 5 1 n (l.map v8)]
def Two (n0 n1 : Nat) (l0 l1 : List UInt8) (v : Value) (R : List Res) : Prop := ∃ bw a0 c0 a1 c1, v = .slice (some ⟨bw, 0, none⟩) 2 2 ∧ R = [.blk bw 22 [.slice a0 n0 c0, .slice a1 n1 c1], .row (.slice a0 n0 c0) 5 1 n0 (l0.map v8), .row (.slice a1 n1 c1) 5 1 n1 (l1.map v8)]
set_option maxHeartbeats 1000000 in
theorem ziY (i : Nat) (a : Option Addr) (n c : Nat) (l : List UInt8) (w : World) (h0 : 1 ≤ i) (h5 : i ≤ 4) (hb : (⟨a, n, c, l⟩ : Bs).ok w) (h : n = 2 * gL i) {x0 x1 : Nat} (e0 : x0 = bev 256 (bn (l.take (gL i)))) (e1 : x1 = bev 256 (bn (l.drop (gL i)))) :
    Sy.Fn Tryz.prog 16 [.int .i64 (i : Int), .slice a n c] w No (Two (nd 256 x0) (nd 256 x1) (byt x0) (byt x1)) := by
  refine zq Tryz.func16 rfl Tryz.ntmps16 (by simp) Holds.nil ?_
  have hz : 1 ≤ (i : Int) ∧ (i : Int) ≤ 4 := ⟨by omega, by omega⟩
  have hln := fun w' => zgo (i : Int) w'
  have hgl : glen (i : Int) = gL i := by unfold glen; rw [if_pos hz, Int.toNat_natCast]
  rw [hgl] at hln
  have hle := fun w' => ziP i w' h0 h5
  have hl : l.length = n := hb.len
  have hcap : n ≤ c := hb.cap
  have hpos := zkC h0 h5
  have h96 := zcO hz
  rw [Int.toNat_natCast] at h96
  obtain ⟨a2, ha2⟩ : ∃ a2, a2 = movA a (gL i) c 1 := ⟨_, rfl⟩
  have hf0 := fun w' (hk : Keep No w w') => ziK a (gL i) c (l.take (gL i)) w' (by rw [List.length_take]; omega) (by rw [List.map_take]; exact (hb.keep hk).sla.take _) (by omega)
  have hf1 := fun w' (hk : Keep No w w') => ziK a2 (gL i) (c - gL i) (l.drop (gL i)) w' (by rw [List.length_drop]; omega) (by rw [List.map_drop, ha2]; exact (hb.keep hk).sla.mov (by rw [List.length_map]; show l.length ≤ c; omega)) (by omega)
  rw [← e0] at hf0
  rw [← e1] at hf1
  have hx0W : x0 < 18446744073709551616 ^ 16 := by rw [e0]; exact bevW' (by rw [List.length_take]; omega)
  have hx1W : x1 < 18446744073709551616 ^ 16 := by rw [e1]; exact bevW' (by rw [List.length_drop]; omega)
  have hb0 := fun w' a c (h : SlA w' a (refC x0)) => zeC a c x0 w' h (Nat.lt_trans (zlG hx0W) (by decide))
  have hb1 := fun w' a c (h : SlA w' a (refC x1)) => zeC a c x1 w' h (Nat.lt_trans (zlG hx1W) (by decide))
  have g1 : decide (((2 * gL i : Nat) : Int) = 0) = false := decide_eq_false (by omega)
  have g2 : decide ((n : Int) ≠ ((2 * gL i : Nat) : Int)) = false := decide_eq_false (fun h' => h' (by omega))
  have hmm : n - gL i = gL i := by omega
  have hlc : gL i ≤ c := by omega
  have hnl : gL i ≤ n := by omega
  clear e0 e1
  unfold RefG at hf0 hf1
  generalize gL i = len at *
  generalize byt x0 = l0 at *
  generalize byt x1 = l1 at *
  generalize nd 256 x0 = n0 at *
  generalize nd 256 x1 = n1 at *
  repeat' (first | refine zh ?_ | refine zf ?_ | refine zt rfl ?_ | refine zr ?_ | refine ze ?_ | refine zj ?_ | (refine za (id := 0) ?_; refine zd ?_) | (refine za (id := 1) ?_; refine zb ?_; refine yv (zi (hc := fun _ _ _ _ => (hln _))) (k := ?_); refine yv (z3 (hr := g1)) (k := ?_); refine zb ?_; refine zb ?_; refine zA ?_; refine zb ?_; refine yv (zi (hc := fun _ _ _ _ => (hln _))) (k := ?_); refine yv (zax (hr := g2)) (k := ?_); refine zx ?_) | (refine za (id := 3) ?_; refine zb ?_; refine yv (zi (hc := fun _ _ _ _ => (hle _))) (k := ?_); refine zd ?_) | fail)
  refine zaV (id := 4) mixed ?_
  (refine zaT 10 10 [[], [], [0, 1], [0, 1, 2], [0, 1, 2, 3], [], [], [5, 6], [0, 1, 2, 3, 4, 5, 6, 7], [0, 1, 2, 3, 4, 5, 6, 7, 8], [0, 1, 2, 3, 4, 5, 6, 7, 8, 9], [0, 1, 2, 3, 4, 5, 6, 7, 8, 9, 10]] [[], [], [], [], [], [], [], [], [], [], [], []] none rfl ?_ ?_ ?_; kernel_rfl; kernel_rfl; refine zac ?_; refine zac ?_; refine dcE (fun _ _ => zaL (h := len) (n' := len) (c' := c) (a' := a)) (k := ?_); try refine dh_0nE (h := ?_))
  refine zbu (R := fun _ => RefG x0) (fun _ _ _ => rfl) (fun ρ hρ => zF (f := 58) (hc := fun w' X hk hh => hf0 w' hk)) (h := ?_)
  refine zbu (R := fun _ => RowX l0 n0) (fun _ _ _ => rfl) (fun ρ hρ => ?_) (h := ?_)
  · obtain ⟨⟨aG, cG, p1, p2⟩, -⟩ := hρ
    refine zF (f := 69) (vs := [.slice aG (nd 65536 x0) cG]) (ha := by show some [(ρ 3).1] = _; rw [p1]) (hc := fun w' X hk hh => ?_)
    have hh : Holds _ _ (((ρ 3).2 ++ _) ++ X) w' := hh
    rw [p2] at hh
    exact hb0 w' aG cG (z9 hh (by exact Has.append Has.go))
  (skip; refine zac ?_; refine zac ?_; refine dcE (fun _ _ => zaL (l := len) (a' := a2) (ha := ha2.symm) (n' := len) (hn' := hmm)) (k := ?_); try refine dh_0nE (h := ?_))
  refine zbu (R := fun _ => RefG x1) (fun _ _ _ => rfl) (fun ρ hρ => zF (f := 58) (hc := fun w' X hk hh => hf1 w' hk)) (h := ?_)
  refine zbu (R := fun _ => RowX l1 n1) (fun _ _ _ => rfl) (fun ρ hρ => ?_) (h := ?_)
  · obtain ⟨⟨aG, cG, p1, p2⟩, -⟩ := hρ
    refine zF (f := 69) (vs := [.slice aG (nd 65536 x1) cG]) (ha := by show some [(ρ 8).1] = _; rw [p1]) (hc := fun w' X hk hh => ?_)
    have hh : Holds _ _ (((ρ 8).2 ++ _) ++ X) w' := hh
    rw [p2] at hh
    exact hb1 w' aG cG (z9 hh (by exact Has.append Has.go))
  refine zbI (h := ?_)
  rintro ρ ⟨⟨aS, cS, s1, s2⟩, ⟨aF, cF, f1, f2⟩, ⟨aE, cE, u1, u2⟩, ⟨aG, cG, v1, v2⟩, -⟩
  have s2 : (ρ 9).2 = [.row (.slice aS n1 cS) 5 1 n1 (l1.map v8)] := s2
  have f2 : (ρ 8).2 = [.row (.slice aF (nd 65536 x1) cF) 3 1 (nd 65536 x1) (refC x1)] := f2
  have u2 : (ρ 4).2 = [.row (.slice aE n0 cE) 5 1 n0 (l0.map v8)] := u2
  have v2 : (ρ 3).2 = [.row (.slice aG (nd 65536 x0) cG) 3 1 (nd 65536 x0) (refC x0)] := v2
  (refine zaU [[], [], [0, 1], [0, 1, 2], [0, 1, 2, 3], [], [], [5, 6], [0, 1, 2, 3, 4, 5, 6, 7], [0, 1, 2, 3, 4, 5, 6, 7, 8], [0, 1, 2, 3, 4, 5, 6, 7, 8, 9], [0, 1, 2, 3, 4, 5, 6, 7, 8, 9, 10]] ?_ ?_; kernel_rfl)
  refine SyL.weaken (fr' := [(22, .slice aE n0 cE), (27, .slice aS n1 cS)]) (L' := [.row (.slice aE n0 cE) 5 1 n0 (l0.map v8), .row (.slice aS n1 cS) 5 1 n1 (l1.map v8)]) ?_ ?_ ?_
  rotate_left
  · (repeat' (first | exact Sub.nil | refine Sub.cons rfl ?_ ?_ | rfl))
    · exact u1
    · exact s1
  · show SubR _ ((ρ 9).2 ++ ((ρ 8).2 ++ ((ρ 4).2 ++ ((ρ 3).2 ++ _))))
    rw [s2, f2, u2, v2]
    exact SubR.go2
  repeat' (first | refine zf ?_ | refine zp ?_ | refine ze ?_ | refine zj ?_ | (refine zT ?_; first | refine zd ?_ | (refine ys zJ (k := ?_); rintro _ _ ⟨_, rfl, rfl⟩) | fail) | fail)
  exact ret1 rfl (resTmp rfl) (by exact SubR.go2) ⟨_, _, _, _, _, rfl, rfl⟩
theorem zf4 {z : Int} (h : glen z ≠ 0) : 1 ≤ z ∧ z ≤ 4 := by
  by_cases hz : 1 ≤ z ∧ z ≤ 4
  · exact hz
  · exact absurd (show glen z = 0 by unfold glen; exact if_neg hz) h
set_option maxHeartbeats 4000000 in
theorem zhW (z : Int) (a1 : Option Addr) (n1 c1 : Nat) (l1 : List UInt8) (many : Int) (w : World) (hG : GT w) (hT : Tab w No) (hS : ST w) (h1 : (⟨a1, n1, c1, l1⟩ : Bs).ok w) (hmany : many < 9223372036854775808) :
    Sy.Fn Tryz.prog 6 [.int .i64 z, .slice a1 n1 c1, .int .i64 many] w No (Gives (.bool true)) := by
  refine zq Tryz.func6 rfl Tryz.ntmps6 (by simp) Holds.nil ?_
  have hkn := fun w' (hk : Keep No w w') => zdP w' (hG.to hk) (hT.no hk) (hS.to hk)
  have hl : l1.length = n1 := h1.len
  have hs := h1.sla
  have hnil : a1 = none → c1 = 0 := h1.nil
  dsimp only at hs
  by_cases b1 : 200 < n1
  · repeat' (first | refine zh ?_ | refine zf ?_ | refine zw rfl ?_ | refine zp ?_ | refine ze ?_ | refine zj ?_ | refine zy ?_ | (refine za (id := 0) ?_; (refine zm ?_; intro _); (refine zm ?_; intro _)) | (refine za (id := 1) ?_; refine zb ?_; refine zA ?_; refine z6 ?_) | (refine za (id := 2) ?_; refine yv (zi (f := 9) (hc := fun w' _ hk _ => hkn w' hk)) (k := ?_); refine zH ?_) | fail)
    exact ret1 rfl (resCell rfl (ty rfl) rfl Has.go rfl) SubR.nil ⟨rfl, rfl⟩
  repeat' (first | refine zh ?_ | refine zf ?_ | refine zt rfl ?_ | refine zr ?_ | refine ze ?_ | refine zj ?_ | (refine za (id := 0) ?_; (refine zm ?_; intro _); (refine zm ?_; intro _)) | (refine za (id := 1) ?_; refine zb ?_; refine zA ?_; refine z6 ?_) | (refine za (id := 3) ?_; (refine ys zf0 (k := ?_); rintro _ _ ⟨_, rfl, rfl⟩); refine zb ?_; (refine ys (zdX (xs := []) (k := 0) (m := n1) (km := n1) (hr := Rd.old hs (fun _ _ h => h)) (hn := by rw [List.length_map, Nat.mul_one, hl]) (hnil := hnil) (hkm := Nat.zero_add _) (hys := List.nil_append _)) (k := ?_); rintro _ _ ⟨rfl, aO, cO, rfl⟩); refine zd ?_) | fail)
  rename_i b5 b6 bE
  repeat' (first | refine zh ?_ | refine zf ?_ | refine ze ?_ | refine zj ?_ | (refine za (id := 4) ?_; refine zb ?_; refine zb ?_; (refine ys (zF (f := 15) (hc := fun w' X hk hh => zg5 z aO n1 cO l1 w' (zaD (E := 5) hh hl (by exact Has.append Has.go)) (by omega))) (k := ?_); rintro _ _ ⟨R, rfl, bI, bS, aC, cC, rfl, rfl⟩); refine zd ?_) | fail)
  repeat' (first | refine zh ?_ | refine zf ?_ | refine zt rfl ?_ | refine zu ?_ | refine zr ?_ | refine ze ?_ | refine zj ?_ | (refine za (id := 5) ?_; refine zb ?_; refine zai ?_) | (refine za (id := 7) ?_; refine zd ?_) | fail)
  unfold PRes
  refine Sy.weaken (fr' := [(0, .int .i64 z), (1, .slice a1 n1 c1), (5, .pointer (some ⟨b5, 0, none⟩)), (6, .pointer (some ⟨b6, 0, none⟩)), (7, .slice aO n1 cO), (8, .func (.func 66) #[] #[.pointer (some ⟨bI, 0, none⟩), .pointer (some ⟨bS, 0, none⟩)]), (9, .int .i64 0)]) (L' := [.row (.slice aO n1 cO) 5 1 n1 (l1.map v8), .blk bS 22 [.slice aC n1 cC], .blk bI 3 [.int .i64 z], .row (.slice aC n1 cC) 5 1 n1 (l1.map v8), .blk b6 4 [.bool false], .blk b5 3 [.int .i64 many]]) ?_ (by exact Sub.go) (by exact SubR.go2)
  refine zkB (a := aO) .here fun ro hro => ?_
  refine zQ (γ := Nat × Res) (fun g => [(0, .int .i64 z), (1, .slice a1 n1 c1), (5, .pointer (some ⟨b5, 0, none⟩)), (6, .pointer (some ⟨b6, 0, none⟩)), (7, .slice aO n1 cO), (8, .func (.func 66) #[] #[.pointer (some ⟨bI, 0, none⟩), .pointer (some ⟨bS, 0, none⟩)]), (9, .int .i64 ((g.1 : Nat) : Int))]) (fun g => [g.2, .blk bS 22 [.slice aC n1 cC], .blk bI 3 [.int .i64 z], .row (.slice aC n1 cC) 5 1 n1 (l1.map v8), .blk b6 4 [.bool false], .blk b5 3 [.int .i64 many]])
    (fun g => g.1 ≤ n1 ∧ (0 < n1 → ∃ b D, aO = some ⟨b, 0, none⟩ ∧ g.2 = .blk b 5 D ∧ n1 ≤ D.length ∧ ∀ j, j < n1 → ∃ x : UInt8, D[j]? = some (v8 x))) (fun g => n1 - g.1) (0, ro) ?_ ?_ ?_ ?_
  · refine ⟨Nat.zero_le _, fun h0 => ?_⟩
    obtain ⟨b, J, e1, e2⟩ := hro h0
    refine ⟨b, _, e1, e2, by rw [List.length_append, List.length_map]; omega, fun j hj => ⟨l1[j]'(by omega), ?_⟩⟩
    rw [List.getElem?_append_left (by rw [List.length_map]; omega), List.getElem?_map, List.getElem?_eq_getElem (by omega)]; rfl
  · exact Sub.go
  · exact SubR.go
  clear hro ro
  rintro ⟨k, ro⟩ ⟨hk, hro⟩
  dsimp only at hk hro ⊢
  by_cases hlk : k < n1
  · obtain ⟨b, D, rfl, rfl, hD, hx⟩ := hro (by omega)
    obtain ⟨x, hx0⟩ := hx k hlk
    have hx0 : D[k]? = some (.int .u8 (Wd.n8 x)) := hx0
    repeat' (first | refine zh ?_ | refine zf ?_ | refine zw rfl ?_ | refine zu ?_ | refine zr ?_ | refine ze ?_ | refine zj ?_ | (refine za (id := 8) ?_; refine zb ?_; refine zb ?_; refine zA ?_; refine zX ?_) | (refine za (id := 10) ?_; refine zb ?_; refine zb ?_; refine zC ?_; refine zz ?_; refine yv (zK (hr := Wd.add8_one x)) (k := ?_); refine zC ?_; refine zH ?_) | (refine za (id := 9) ?_; refine zb ?_; refine zah ?_; refine zd ?_) | fail)
    refine zI (k + 1, .blk b 5 (D.set k (v8 (x + 1)))) ?_ ?_ ?_ ?_
    · refine ⟨hlk, fun _ => ⟨b, _, rfl, rfl, by simpa using hD, fun j hj => ?_⟩⟩
      by_cases e : k = j
      · subst e; exact ⟨x + 1, by rw [List.getElem?_set_self (by omega)]⟩
      · rw [List.getElem?_set_ne e]; exact hx j hj
    · show n1 - (k + 1) < n1 - k; omega
    · exact Sub.go
    · exact SubR.go
  obtain rfl : k = n1 := by omega
  clear hro
  have hM1 : max (1 : Int) many = max (1 : Int) many := rfl
  have ht1 : IntKind.i64.wrap ((1 : Int) + 1) = 2 := by rw [IntWalk.i64_in _ (by omega)]; rfl
  have ht0 : IntKind.i64.wrap ((0 : Int) + 1) = 1 := by rw [IntWalk.i64_in _ (by omega)]; rfl
  by_cases hc : glen z = 0 ∨ k ≠ 2 * glen z
  · have hxs : sParts z l1 = [] := by unfold sParts; rw [if_pos (by rw [hl]; exact hc)]
    have hP := fun w' => zik z a1 k c1 l1 w' hl hc
    repeat' (first | refine zh ?_ | refine zf ?_ | refine zt rfl ?_ | refine zu ?_ | refine zE ?_ | refine ze ?_ | refine zj ?_ | (refine za (id := 8) ?_; refine zb ?_; refine zb ?_; refine zA ?_; refine zX ?_) | (refine za (id := 11) ?_; refine zb ?_; refine zb ?_; refine yv (zi (hc := fun _ _ _ _ => (hP _))) (k := ?_); (refine zm ?_; intro _); refine zH ?_) | (refine za (id := 12) ?_; (refine zm ?_; intro _); refine zH ?_) | fail)
    rename_i b10 b11
    refine zQ (γ := Nat × Nat) (fun g => [(5, .pointer (some ⟨b5, 0, none⟩)), (6, .pointer (some ⟨b6, 0, none⟩)), (8, .func (.func 66) #[] #[.pointer (some ⟨bI, 0, none⟩), .pointer (some ⟨bS, 0, none⟩)]), (10, .pointer (some ⟨b10, 0, none⟩)), (11, .pointer (some ⟨g.2, 0, none⟩))])
      (fun g => [.blk g.2 3 [.int .i64 ((g.1 : Nat) : Int)], .blk b10 37 [.slice none 0 0], .blk bS 22 [.slice aC k cC], .blk bI 3 [.int .i64 z], .row (.slice aC k cC) 5 1 k (l1.map v8), .blk b6 4 [.bool false], .blk b5 3 [.int .i64 many]]) (fun g => g.1 ≤ 2) (fun g => 2 - g.1) (0, b11) (Nat.zero_le _) ?_ ?_ ?_
    · exact Sub.go
    · try dsimp only
      exact SubR.go2
    clear b11
    rintro ⟨t, b11⟩ ht
    dsimp only at ht ⊢
    rcases Nat.lt_or_ge t 2 with ht2 | ht2
    rotate_left
    · obtain rfl : t = 2 := by omega
      have hlt : decide (((2 : Nat) : Int) < 2) = false := rfl
      repeat' (first | refine zh ?_ | refine zf ?_ | refine zt rfl ?_ | refine zp ?_ | refine zE ?_ | refine ze ?_ | refine zj ?_ | (refine za (id := 13) ?_; refine zz ?_; refine yv (zS (hr := hlt)) (k := ?_)) | (refine za (id := 26) ?_; refine yv (zi (f := 9) (hc := fun w' _ hk _ => hkn w' hk)) (k := ?_); refine zH ?_) | fail)
      exact ret1 rfl (resCell rfl (ty rfl) rfl Has.go rfl) SubR.nil ⟨rfl, rfl⟩
    have hlt : decide ((t : Int) < 2) = true := decide_eq_true (by omega)
    repeat' (first | refine zh ?_ | refine zf ?_ | refine zw rfl ?_ | refine zu ?_ | refine zr ?_ | refine ze ?_ | refine zj ?_ | (refine za (id := 13) ?_; refine zz ?_; refine yv (zS (hr := hlt)) (k := ?_)) | (refine za (id := 15) ?_; (refine zm ?_; intro _); refine zH ?_) | (refine za (id := 16) ?_; refine zb ?_) | fail)
    rename_i b12
    refine zb6 (γ := Nat) (xs := ([] : List Nat)) (Arg := ArgV) za3 rfl (en rfl) rfl (fun k' s => s = k' ∧ (t = 0 → 0 < k' → (k' : Int) < many)) (fun cc k' s => cc = .exit 4 ∧ t = 0 ∧ s = k' ∧ 1 ≤ k' ∧ many ≤ (k' : Int) ∧ (1 < k' → ((k' - 1 : Nat) : Int) < many))
      (fun s => [.blk b12 3 [.int .i64 ((s : Nat) : Int)], .blk b11 3 [.int .i64 ((t : Nat) : Int)], .blk b10 37 [.slice none 0 0], .blk b6 4 [.bool false], .blk b5 3 [.int .i64 many]]) [.blk bS 22 [.slice aC k cC], .blk bI 3 [.int .i64 z], .row (.slice aC k cC) 5 1 k (l1.map v8)] [] 0 ⟨rfl, fun _ h => absurd h (Nat.lt_irrefl _)⟩ ?_ ?_ ?_ ?_ ?_ ?_
    · try dsimp only
      ((try simp only [List.cons_append, List.nil_append, List.append_nil]); (repeat' (first | exact List.Perm.nil | exact List.Perm.refl _ | (apply permr; with_reducible (focus ((repeat (first | exact Rem.here | apply Rem.there)); done))) | (apply permr; (focus ((repeat (first | exact Rem.here | apply Rem.there)); done))))))
    · intro w' Mi X hk hmi _ _
      obtain ⟨q1, q2⟩ := zbl (M := No) hG (by unfold gCells; simp) (fun h => h) hk hmi
      obtain ⟨q3, q4⟩ := zbl (M := No) hS (List.cons_ne_nil _ _) (fun h => h) hk hmi
      have := zeG bI bS z aC k cC l1 w' Mi hl q1 q2 q3 q4
      rw [hxs] at this
      exact this
    · rintro O x vs RA w' ⟨rfl, _⟩; rfl
    · rintro lp k' hk s vs RA W rec hrec - - hkW hmine
      exact absurd hk (by simp)
    · rintro s ⟨rfl, hI⟩
      try dsimp only
      rcases (show t = 0 ∨ t = 1 by omega) with rfl | rfl
      · have hmn : min (0 : Int) (max 1 many) = 0 := by omega
        repeat' (first | refine zh ?_ | refine zf ?_ | refine zt rfl ?_ | refine zr ?_ | refine ze ?_ | refine zj ?_ | (refine za (id := 22) ?_; refine zz ?_; refine zai ?_; refine zb ?_; refine zz ?_; refine zz ?_; refine zA ?_; refine zz ?_; refine yv (zfH (hr := hM1)) (k := ?_); refine yv (zeT (hr := hmn)) (k := ?_); refine zW ?_; refine zx ?_; refine zb ?_; refine zz ?_; refine zai ?_; refine zb ?_; refine zo rfl rfl rfl ?_; refine zo rfl rfl rfl ?_; refine zo rfl rfl rfl ?_; refine zo rfl rfl rfl ?_; refine zx ?_; refine zx ?_) | (refine za (id := 24) ?_; refine zz ?_) | (refine za (id := 25) ?_; (refine zm ?_; intro _); refine zH ?_) | (refine za (id := 14) ?_; refine zz ?_; refine yv (zK (hr := ht0)) (k := ?_); refine zH ?_) | fail)
        rename_i bn
        refine zI (1, bn) ?_ ?_ ?_ ?_
        · show 1 ≤ 2; omega
        · show 2 - 1 < 2 - 0; omega
        · exact Sub.go
        · try dsimp only
          exact SubR.go2
      · repeat' (first | refine zh ?_ | refine zf ?_ | refine zt rfl ?_ | refine zr ?_ | refine ze ?_ | refine zj ?_ | (refine za (id := 22) ?_; refine zz ?_; refine zai ?_; refine zb ?_; refine zo rfl rfl rfl ?_; refine zo rfl rfl rfl ?_; refine zo rfl rfl rfl ?_; refine zo rfl rfl rfl ?_; refine zo rfl rfl rfl ?_; refine zo rfl rfl rfl ?_; refine zo rfl rfl rfl ?_; refine zx ?_; refine zb ?_; refine zz ?_; refine zai ?_; refine zb ?_; refine zz ?_; refine zz ?_; refine zA ?_; refine zW ?_; refine zx ?_; refine zx ?_) | (refine za (id := 24) ?_; refine zz ?_) | (refine za (id := 25) ?_; (refine zm ?_; intro _); refine zH ?_) | (refine za (id := 14) ?_; refine zz ?_; refine yv (zK (hr := ht1)) (k := ?_); refine zH ?_) | fail)
        rename_i bn
        refine zI (2, bn) ?_ ?_ ?_ ?_
        · show 2 ≤ 2; omega
        · show 2 - 2 < 2 - 1; omega
        · exact Sub.go
        · try dsimp only
          exact SubR.go2
    · rintro _ k' s hk ⟨rfl, rfl, rfl, hk1, -, -⟩
      have hs0 : s ≤ 0 := hk
      omega
  have hc0 : glen z ≠ 0 := fun h => hc (.inl h)
  have hck : k = 2 * glen z := Classical.byContradiction fun h => hc (.inr h)
  obtain ⟨i, rfl, hi, h0, h5⟩ := zbc (zf4 hc0)
  have hgl : glen (i : Int) = gL i := by unfold glen; rw [if_pos (zf4 hc0), hi]
  have hg96 := zcO (zf4 hc0)
  rw [hi] at hg96
  obtain ⟨x0, e0⟩ : ∃ x, x = bev 256 (bn (l1.take (gL i))) := ⟨_, rfl⟩
  obtain ⟨x1, e1⟩ : ∃ x, x = bev 256 (bn (l1.drop (gL i))) := ⟨_, rfl⟩
  rw [hgl] at hck hc
  have hxs : sParts (i : Int) l1 = [x0, x1] := by unfold sParts; rw [hgl, if_neg (by rw [hl]; exact hc), ← e0, ← e1]
  have hP := fun w' (hk : Keep No w w') => ziY i a1 k c1 l1 w' h0 h5 (h1.keep hk) hck e0 e1
  have hx0W : x0 < 18446744073709551616 ^ 16 := by rw [e0]; exact bevW' (by rw [List.length_take]; omega)
  have hx1W : x1 < 18446744073709551616 ^ 16 := by rw [e1]; exact bevW' (by rw [List.length_drop]; omega)
  have hb0 := fun w' => zd3 x0 w' hx0W
  have hb1 := fun w' => zd3 x1 w' hx1W
  have hlE := zcL x0
  have hlS := zcL x1
  unfold Two at hP
  clear e0 e1
  generalize byt x0 = lE at *
  generalize byt x1 = lS at *
  generalize nd 256 x0 = n0 at *
  generalize nd 256 x1 = m1 at *
  generalize hzz : (i : Int) = z at *
  repeat' (first | refine zh ?_ | refine zf ?_ | refine zt rfl ?_ | refine zu ?_ | refine zE ?_ | refine ze ?_ | refine zj ?_ | (refine za (id := 8) ?_; refine zb ?_; refine zb ?_; refine zA ?_; refine zX ?_) | (refine za (id := 11) ?_; refine zb ?_; refine zb ?_; (refine ys (zF (f := 16) (hc := fun w' X hk hh => hP w' hk)) (k := ?_); rintro _ _ ⟨R, rfl, bw, aE, cE, aS, cS, rfl, rfl⟩); (refine zm ?_; intro _); refine zH ?_) | (refine za (id := 12) ?_; (refine zm ?_; intro _); refine zH ?_) | fail)
  rename_i b10 b11
  refine zQ (γ := Nat × Nat) (fun g => [(5, .pointer (some ⟨b5, 0, none⟩)), (6, .pointer (some ⟨b6, 0, none⟩)), (8, .func (.func 66) #[] #[.pointer (some ⟨bI, 0, none⟩), .pointer (some ⟨bS, 0, none⟩)]), (10, .pointer (some ⟨b10, 0, none⟩)), (11, .pointer (some ⟨g.2, 0, none⟩))])
    (fun g => [.blk g.2 3 [.int .i64 ((g.1 : Nat) : Int)], .blk b10 37 [.slice (some ⟨bw, 0, none⟩) 2 2], .blk bw 22 [.slice aE n0 cE, .slice aS m1 cS], .row (.slice aE n0 cE) 5 1 n0 (lE.map v8), .row (.slice aS m1 cS) 5 1 m1 (lS.map v8), .blk bS 22 [.slice aC k cC], .blk bI 3 [.int .i64 z], .row (.slice aC k cC) 5 1 k (l1.map v8), .blk b6 4 [.bool false], .blk b5 3 [.int .i64 many]]) (fun g => g.1 ≤ 2) (fun g => 2 - g.1) (0, b11) (Nat.zero_le _) ?_ ?_ ?_
  · exact Sub.go
  · try dsimp only
    exact SubR.go2
  clear b11
  rintro ⟨t, b11⟩ ht
  dsimp only at ht ⊢
  rcases Nat.lt_or_ge t 2 with ht2 | ht2
  rotate_left
  · obtain rfl : t = 2 := by omega
    have hlt : decide (((2 : Nat) : Int) < 2) = false := rfl
    repeat' (first | refine zh ?_ | refine zf ?_ | refine zt rfl ?_ | refine zp ?_ | refine zE ?_ | refine ze ?_ | refine zj ?_ | (refine za (id := 13) ?_; refine zz ?_; refine yv (zS (hr := hlt)) (k := ?_)) | (refine za (id := 26) ?_; refine yv (zi (f := 9) (hc := fun w' _ hk _ => hkn w' hk)) (k := ?_); refine zH ?_) | fail)
    exact ret1 rfl (resCell rfl (ty rfl) rfl Has.go rfl) SubR.nil ⟨rfl, rfl⟩
  have hlt : decide ((t : Int) < 2) = true := decide_eq_true (by omega)
  repeat' (first | refine zh ?_ | refine zf ?_ | refine zw rfl ?_ | refine zu ?_ | refine zr ?_ | refine ze ?_ | refine zj ?_ | (refine za (id := 13) ?_; refine zz ?_; refine yv (zS (hr := hlt)) (k := ?_)) | (refine za (id := 15) ?_; (refine zm ?_; intro _); refine zH ?_) | (refine za (id := 16) ?_; refine zb ?_) | fail)
  rename_i b12
  refine zb6 (γ := Nat) (xs := ([x0, x1] : List Nat)) (Arg := ArgV) za3 rfl (en rfl) rfl (fun k' s => s = k' ∧ (t = 0 → 0 < k' → (k' : Int) < many)) (fun cc k' s => cc = .exit 4 ∧ t = 0 ∧ s = k' ∧ 1 ≤ k' ∧ many ≤ (k' : Int) ∧ (1 < k' → ((k' - 1 : Nat) : Int) < many))
    (fun s => [.blk b12 3 [.int .i64 ((s : Nat) : Int)], .blk b11 3 [.int .i64 ((t : Nat) : Int)], .blk b10 37 [.slice (some ⟨bw, 0, none⟩) 2 2], .blk bw 22 [.slice aE n0 cE, .slice aS m1 cS], .row (.slice aE n0 cE) 5 1 n0 (lE.map v8), .row (.slice aS m1 cS) 5 1 m1 (lS.map v8), .blk b6 4 [.bool false], .blk b5 3 [.int .i64 many]]) [.blk bS 22 [.slice aC k cC], .blk bI 3 [.int .i64 z], .row (.slice aC k cC) 5 1 k (l1.map v8)] [] 0 ⟨rfl, fun _ h => absurd h (Nat.lt_irrefl _)⟩ ?_ ?_ ?_ ?_ ?_ ?_
  · try dsimp only
    ((try simp only [List.cons_append, List.nil_append, List.append_nil]); (repeat' (first | exact List.Perm.nil | exact List.Perm.refl _ | (apply permr; with_reducible (focus ((repeat (first | exact Rem.here | apply Rem.there)); done))) | (apply permr; (focus ((repeat (first | exact Rem.here | apply Rem.there)); done))))))
  · intro w' Mi X hk hmi _ _
    obtain ⟨q1, q2⟩ := zbl (M := No) hG (by unfold gCells; simp) (fun h => h) hk hmi
    obtain ⟨q3, q4⟩ := zbl (M := No) hS (List.cons_ne_nil _ _) (fun h => h) hk hmi
    have := zeG bI bS z aC k cC l1 w' Mi hl q1 q2 q3 q4
    rw [hxs] at this
    exact this
  · rintro O x vs RA w' ⟨rfl, _⟩; rfl
  · rintro lp k' hk s vs RA W rec hrec ⟨rfl, hI⟩ ⟨rfl, rfl⟩ hkW hmine
    clear hmine
    have hs2 : s < 2 := hk
    rcases (show s = 0 ∨ s = 1 by omega) with rfl | rfl
    · have ex := zg x0
      have hge : decide (((0 : Nat) : Int) ≥ 2) = false := rfl
      have hadd : IntKind.i64.wrap (((0 : Nat) : Int) + 1) = ((1 : Nat) : Int) := by rw [IntWalk.i64_in _ (by omega)]; rfl
      have he : decide (lE ≠ lE) = false := decide_eq_false (fun h => h rfl)
      have hc : [Value.slice aE n0 cE, Value.slice aS m1 cS][0]? = some (.slice aE n0 cE) := rfl
      show Sy _ _ _ _ _ _ _ _ (psFr (List.zip _ [natV x0]) _) _
      repeat' (first | refine zh ?_ | refine zf ?_ | refine zu ?_ | refine ze ?_ | (apply zbh; (focus ((repeat (first | exact Rem.here | apply Rem.there)); done)); assumption) | (refine za (id := 17) ?_; (refine zm ?_; intro _); refine yn (zn (n := x0)) (k := ?_)) | fail)
      rename_i b13
      refine zaV (id := 18) mixed ?_
      (refine zaT 13 13 [[], [], [1], [0, 1, 2], [0, 1, 2, 3], [0, 1, 2, 3, 4], [0, 1, 2, 3, 4, 5], [0, 1, 2, 3, 4, 5, 6], [0, 1, 2, 3, 4], [0, 1, 2, 3, 4], [0, 1, 2, 3, 4, 8, 9], [0, 1, 2, 3, 4, 8, 9, 10], [0, 1, 2, 3, 4, 8, 9, 10, 11], [0, 1, 2, 3, 4, 5, 6, 7, 8, 9, 10, 11, 12], [0, 1, 2, 3, 4, 5, 6, 7, 8, 9, 10, 11, 12, 13]] [[], [], [], [], [], [], [], [], [], [], [], [], [], [], []] none rfl ?_ ?_ ?_; kernel_rfl; kernel_rfl; refine zcT ?_; refine zcT ?_; refine zlF ?_; refine dcE (fun _ _ => zas (hr := hge)) (k := ?_); refine zac ?_; refine dcE (fun _ _ => zl (B := natC x0)) (k := ?_); try refine dh_0nE (h := ?_))
      refine zbu (R := fun _ v Nw => ∃ b, v = .slice (some ⟨b, 0, none⟩) n0 n0 ∧ Nw = [.blk b 5 (lE.map v8)]) (fun _ _ _ => rfl) (fun ρ hρ => OpT.mono (zF (f := 17) (hc := fun w' X hk hh => hb0 w')) fun v L' h => ?_) (h := ?_)
      · obtain ⟨R, rfl, b, rfl, rfl⟩ := h
        exact ⟨_, rfl, b, rfl, rfl⟩
      refine dcE (u := .string (str lE)) (fun ρ hρ => ?_) (k := ?_)
      · obtain ⟨⟨b, e1, e2⟩, -⟩ := hρ
        exact zaZ (l := lE) (n := n0) (hx := by show some (ρ 6).1 = _; rw [e1]) (hr := Rd.of (Reads.blk (T := 5) (by show Has ((ρ 6).2 ++ _) _; rw [e2]; exact Has.here) Seg.all)) (hn := hlE)
      (skip; refine zcT ?_; refine zcT ?_; refine dcE (fun _ _ => zbj (j := 0)) (k := ?_); refine dcE (fun _ _ => zP (hv := hc)) (k := ?_); refine dcE (fun _ _ => zaZ (l := lE) (hr := Rd.row Has.go) (hn := hlE)) (k := ?_); try refine dh_0nE (h := ?_))
      refine zbI (h := ?_)
      rintro ρ ⟨⟨bB, e1, e2⟩, -⟩
      have e2 : (ρ 6).2 = [.blk bB 5 (lE.map v8)] := e2
      (refine zaU [[], [], [1], [0, 1, 2], [0, 1, 2, 3], [0, 1, 2, 3, 4], [0, 1, 2, 3, 4, 5], [0, 1, 2, 3, 4, 5, 6], [0, 1, 2, 3, 4], [0, 1, 2, 3, 4], [0, 1, 2, 3, 4, 8, 9], [0, 1, 2, 3, 4, 8, 9, 10], [0, 1, 2, 3, 4, 8, 9, 10, 11], [0, 1, 2, 3, 4, 5, 6, 7, 8, 9, 10, 11, 12], [0, 1, 2, 3, 4, 5, 6, 7, 8, 9, 10, 11, 12, 13]] ?_ ?_; kernel_rfl)
      refine SyL.weaken (fr' := [(54, .string (str lE)), (59, .string (str lE)), (51, .bool false), (5, .pointer (some ⟨b5, 0, none⟩)), (6, .pointer (some ⟨b6, 0, none⟩)), (8, .func (.func 66) #[] #[.pointer (some ⟨bI, 0, none⟩), .pointer (some ⟨bS, 0, none⟩)]), (10, .pointer (some ⟨b10, 0, none⟩)), (11, .pointer (some ⟨b11, 0, none⟩)), (12, .pointer (some ⟨b12, 0, none⟩))]) (L' := [.obj lp (.loop (busy rec)), .blk b12 3 [.int .i64 ((0 : Nat) : Int)], .blk b11 3 [.int .i64 ((t : Nat) : Int)], .blk b10 37 [.slice (some ⟨bw, 0, none⟩) 2 2], .blk bw 22 [.slice aE n0 cE, .slice aS m1 cS], .row (.slice aE n0 cE) 5 1 n0 (lE.map v8), .row (.slice aS m1 cS) 5 1 m1 (lS.map v8), .blk b6 4 [.bool false], .blk b5 3 [.int .i64 many]]) ?_ (by exact Sub.go) ?_
      rotate_left
      · show SubR _ ((ρ 6).2 ++ _)
        rw [e2]
        exact SubR.go2
      repeat' (first | refine zh ?_ | refine zf ?_ | refine zt rfl ?_ | refine zr ?_ | refine ze ?_ | refine zj ?_ | (refine za (id := 20) ?_; refine zz ?_; refine yv (zK (hr := hadd)) (k := ?_); refine zH ?_) | (refine zT ?_; first | refine yv (zb5 (a := lE) (b := lE) (hr := he)) (k := ?_) | refine zx ?_ | fail) | fail)
      by_cases ht0' : t = 0
      · have u5 : decide ((t : Int) = 0) = true := decide_eq_true (by omega)
        by_cases hm : many ≤ ((1 : Nat) : Int)
        · have u6 : decide (((1 : Nat) : Int) ≥ many) = true := decide_eq_true hm
          repeat' (first | refine zf ?_ | refine zw rfl ?_ | refine zE ?_ | refine ze ?_ | refine zj ?_ | refine zbg rfl ?_ | (refine za (id := 21) ?_; refine zz ?_; refine yv (z3 (hr := u5)) (k := ?_); refine zb ?_; refine zz ?_; refine zz ?_; refine yv (zas (hr := u6)) (k := ?_); refine zx ?_) | fail)
          refine zcw 1 ⟨rfl, ht0', rfl, by decide, hm, fun h => ?_⟩ ?_
          · exact absurd h (by decide)
          try dsimp only
          exact SubR.go2
        · have u6 : decide (((1 : Nat) : Int) ≥ many) = false := decide_eq_false hm
          repeat' (first | refine zf ?_ | refine zt rfl ?_ | refine zr ?_ | refine ze ?_ | refine zj ?_ | refine zaq ?_ | (refine za (id := 21) ?_; refine zz ?_; refine yv (z3 (hr := u5)) (k := ?_); refine zb ?_; refine zz ?_; refine zz ?_; refine yv (zas (hr := u6)) (k := ?_); refine zx ?_) | fail)
          refine zbY 1 ⟨rfl, fun _ _ => by show ((1 : Nat) : Int) < many; omega⟩ ?_
          try dsimp only
          exact SubR.go2
      · have u5 : decide ((t : Int) = 0) = false := decide_eq_false (by omega)
        repeat' (first | refine zf ?_ | refine zt rfl ?_ | refine zr ?_ | refine ze ?_ | refine zj ?_ | refine zaq ?_ | (refine za (id := 21) ?_; refine zz ?_; refine yv (z3 (hr := u5)) (k := ?_); refine zb ?_; refine zo rfl rfl rfl ?_; refine zo rfl rfl rfl ?_; refine zo rfl rfl rfl ?_; refine zx ?_) | fail)
        refine zbY 1 ⟨rfl, fun h => absurd h ht0'⟩ ?_
        try dsimp only
        exact SubR.go2
    · have ex := zg x1
      have hge : decide (((1 : Nat) : Int) ≥ 2) = false := rfl
      have hadd : IntKind.i64.wrap (((1 : Nat) : Int) + 1) = ((2 : Nat) : Int) := by rw [IntWalk.i64_in _ (by omega)]; rfl
      have he : decide (lS ≠ lS) = false := decide_eq_false (fun h => h rfl)
      have hc : [Value.slice aE n0 cE, Value.slice aS m1 cS][1]? = some (.slice aS m1 cS) := rfl
      show Sy _ _ _ _ _ _ _ _ (psFr (List.zip _ [natV x1]) _) _
      repeat' (first | refine zh ?_ | refine zf ?_ | refine zu ?_ | refine ze ?_ | (apply zbh; (focus ((repeat (first | exact Rem.here | apply Rem.there)); done)); assumption) | (refine za (id := 17) ?_; (refine zm ?_; intro _); refine yn (zn (n := x1)) (k := ?_)) | fail)
      rename_i b13
      refine zaV (id := 18) mixed ?_
      (refine zaT 13 13 [[], [], [1], [0, 1, 2], [0, 1, 2, 3], [0, 1, 2, 3, 4], [0, 1, 2, 3, 4, 5], [0, 1, 2, 3, 4, 5, 6], [0, 1, 2, 3, 4], [0, 1, 2, 3, 4], [0, 1, 2, 3, 4, 8, 9], [0, 1, 2, 3, 4, 8, 9, 10], [0, 1, 2, 3, 4, 8, 9, 10, 11], [0, 1, 2, 3, 4, 5, 6, 7, 8, 9, 10, 11, 12], [0, 1, 2, 3, 4, 5, 6, 7, 8, 9, 10, 11, 12, 13]] [[], [], [], [], [], [], [], [], [], [], [], [], [], [], []] none rfl ?_ ?_ ?_; kernel_rfl; kernel_rfl; refine zcT ?_; refine zcT ?_; refine zlF ?_; refine dcE (fun _ _ => zas (hr := hge)) (k := ?_); refine zac ?_; refine dcE (fun _ _ => zl (B := natC x1)) (k := ?_); try refine dh_0nE (h := ?_))
      refine zbu (R := fun _ v Nw => ∃ b, v = .slice (some ⟨b, 0, none⟩) m1 m1 ∧ Nw = [.blk b 5 (lS.map v8)]) (fun _ _ _ => rfl) (fun ρ hρ => OpT.mono (zF (f := 17) (hc := fun w' X hk hh => hb1 w')) fun v L' h => ?_) (h := ?_)
      · obtain ⟨R, rfl, b, rfl, rfl⟩ := h
        exact ⟨_, rfl, b, rfl, rfl⟩
      refine dcE (u := .string (str lS)) (fun ρ hρ => ?_) (k := ?_)
      · obtain ⟨⟨b, e1, e2⟩, -⟩ := hρ
        exact zaZ (l := lS) (n := m1) (hx := by show some (ρ 6).1 = _; rw [e1]) (hr := Rd.of (Reads.blk (T := 5) (by show Has ((ρ 6).2 ++ _) _; rw [e2]; exact Has.here) Seg.all)) (hn := hlS)
      (skip; refine zcT ?_; refine zcT ?_; refine dcE (fun _ _ => zbj (j := 1)) (k := ?_); refine dcE (fun _ _ => zP (hv := hc)) (k := ?_); refine dcE (fun _ _ => zaZ (l := lS) (hr := Rd.row Has.go) (hn := hlS)) (k := ?_); try refine dh_0nE (h := ?_))
      refine zbI (h := ?_)
      rintro ρ ⟨⟨bB, e1, e2⟩, -⟩
      have e2 : (ρ 6).2 = [.blk bB 5 (lS.map v8)] := e2
      (refine zaU [[], [], [1], [0, 1, 2], [0, 1, 2, 3], [0, 1, 2, 3, 4], [0, 1, 2, 3, 4, 5], [0, 1, 2, 3, 4, 5, 6], [0, 1, 2, 3, 4], [0, 1, 2, 3, 4], [0, 1, 2, 3, 4, 8, 9], [0, 1, 2, 3, 4, 8, 9, 10], [0, 1, 2, 3, 4, 8, 9, 10, 11], [0, 1, 2, 3, 4, 5, 6, 7, 8, 9, 10, 11, 12], [0, 1, 2, 3, 4, 5, 6, 7, 8, 9, 10, 11, 12, 13]] ?_ ?_; kernel_rfl)
      refine SyL.weaken (fr' := [(54, .string (str lS)), (59, .string (str lS)), (51, .bool false), (5, .pointer (some ⟨b5, 0, none⟩)), (6, .pointer (some ⟨b6, 0, none⟩)), (8, .func (.func 66) #[] #[.pointer (some ⟨bI, 0, none⟩), .pointer (some ⟨bS, 0, none⟩)]), (10, .pointer (some ⟨b10, 0, none⟩)), (11, .pointer (some ⟨b11, 0, none⟩)), (12, .pointer (some ⟨b12, 0, none⟩))]) (L' := [.obj lp (.loop (busy rec)), .blk b12 3 [.int .i64 ((1 : Nat) : Int)], .blk b11 3 [.int .i64 ((t : Nat) : Int)], .blk b10 37 [.slice (some ⟨bw, 0, none⟩) 2 2], .blk bw 22 [.slice aE n0 cE, .slice aS m1 cS], .row (.slice aE n0 cE) 5 1 n0 (lE.map v8), .row (.slice aS m1 cS) 5 1 m1 (lS.map v8), .blk b6 4 [.bool false], .blk b5 3 [.int .i64 many]]) ?_ (by exact Sub.go) ?_
      rotate_left
      · show SubR _ ((ρ 6).2 ++ _)
        rw [e2]
        exact SubR.go2
      repeat' (first | refine zh ?_ | refine zf ?_ | refine zt rfl ?_ | refine zr ?_ | refine ze ?_ | refine zj ?_ | (refine za (id := 20) ?_; refine zz ?_; refine yv (zK (hr := hadd)) (k := ?_); refine zH ?_) | (refine zT ?_; first | refine yv (zb5 (a := lS) (b := lS) (hr := he)) (k := ?_) | refine zx ?_ | fail) | fail)
      by_cases ht0' : t = 0
      · have u5 : decide ((t : Int) = 0) = true := decide_eq_true (by omega)
        by_cases hm : many ≤ ((2 : Nat) : Int)
        · have u6 : decide (((2 : Nat) : Int) ≥ many) = true := decide_eq_true hm
          repeat' (first | refine zf ?_ | refine zw rfl ?_ | refine zE ?_ | refine ze ?_ | refine zj ?_ | refine zbg rfl ?_ | (refine za (id := 21) ?_; refine zz ?_; refine yv (z3 (hr := u5)) (k := ?_); refine zb ?_; refine zz ?_; refine zz ?_; refine yv (zas (hr := u6)) (k := ?_); refine zx ?_) | fail)
          refine zcw 2 ⟨rfl, ht0', rfl, by decide, hm, fun h => ?_⟩ ?_
          · exact hI ht0' (by decide)
          try dsimp only
          exact SubR.go2
        · have u6 : decide (((2 : Nat) : Int) ≥ many) = false := decide_eq_false hm
          repeat' (first | refine zf ?_ | refine zt rfl ?_ | refine zr ?_ | refine ze ?_ | refine zj ?_ | refine zaq ?_ | (refine za (id := 21) ?_; refine zz ?_; refine yv (z3 (hr := u5)) (k := ?_); refine zb ?_; refine zz ?_; refine zz ?_; refine yv (zas (hr := u6)) (k := ?_); refine zx ?_) | fail)
          refine zbY 2 ⟨rfl, fun _ _ => by show ((2 : Nat) : Int) < many; omega⟩ ?_
          try dsimp only
          exact SubR.go2
      · have u5 : decide ((t : Int) = 0) = false := decide_eq_false (by omega)
        repeat' (first | refine zf ?_ | refine zt rfl ?_ | refine zr ?_ | refine ze ?_ | refine zj ?_ | refine zaq ?_ | (refine za (id := 21) ?_; refine zz ?_; refine yv (z3 (hr := u5)) (k := ?_); refine zb ?_; refine zo rfl rfl rfl ?_; refine zo rfl rfl rfl ?_; refine zo rfl rfl rfl ?_; refine zx ?_) | fail)
        refine zbY 2 ⟨rfl, fun h => absurd h ht0'⟩ ?_
        try dsimp only
        exact SubR.go2
  · rintro s ⟨rfl, hI⟩
    try dsimp only
    rcases (show t = 0 ∨ t = 1 by omega) with rfl | rfl
    · have hI' : ((2 : Nat) : Int) < many := hI rfl (Nat.zero_lt_succ 1)
      have hmn : min (2 : Int) (max 1 many) = 2 := by omega
      repeat' (first | refine zh ?_ | refine zf ?_ | refine zt rfl ?_ | refine zr ?_ | refine ze ?_ | refine zj ?_ | (refine za (id := 22) ?_; refine zz ?_; refine zai ?_; refine zb ?_; refine zz ?_; refine zz ?_; refine zA ?_; refine zz ?_; refine yv (zfH (hr := hM1)) (k := ?_); refine yv (zeT (hr := hmn)) (k := ?_); refine zW ?_; refine zx ?_; refine zb ?_; refine zz ?_; refine zai ?_; refine zb ?_; refine zo rfl rfl rfl ?_; refine zo rfl rfl rfl ?_; refine zo rfl rfl rfl ?_; refine zo rfl rfl rfl ?_; refine zx ?_; refine zx ?_) | (refine za (id := 24) ?_; refine zz ?_) | (refine za (id := 25) ?_; (refine zm ?_; intro _); refine zH ?_) | (refine za (id := 14) ?_; refine zz ?_; refine yv (zK (hr := ht0)) (k := ?_); refine zH ?_) | fail)
      rename_i bn
      refine zI (1, bn) ?_ ?_ ?_ ?_
      · show 1 ≤ 2; omega
      · show 2 - 1 < 2 - 0; omega
      · exact Sub.go
      · try dsimp only
        exact SubR.go2
    · repeat' (first | refine zh ?_ | refine zf ?_ | refine zt rfl ?_ | refine zr ?_ | refine ze ?_ | refine zj ?_ | (refine za (id := 22) ?_; refine zz ?_; refine zai ?_; refine zb ?_; refine zo rfl rfl rfl ?_; refine zo rfl rfl rfl ?_; refine zo rfl rfl rfl ?_; refine zo rfl rfl rfl ?_; refine zo rfl rfl rfl ?_; refine zo rfl rfl rfl ?_; refine zo rfl rfl rfl ?_; refine zx ?_; refine zb ?_; refine zz ?_; refine zai ?_; refine zb ?_; refine zz ?_; refine zz ?_; refine zA ?_; refine zW ?_; refine zx ?_; refine zx ?_) | (refine za (id := 24) ?_; refine zz ?_) | (refine za (id := 25) ?_; (refine zm ?_; intro _); refine zH ?_) | (refine za (id := 14) ?_; refine zz ?_; refine yv (zK (hr := ht1)) (k := ?_); refine zH ?_) | fail)
      rename_i bn
      refine zI (2, bn) ?_ ?_ ?_ ?_
      · show 2 ≤ 2; omega
      · show 2 - 2 < 2 - 1; omega
      · exact Sub.go
      · try dsimp only
        exact SubR.go2
  · rintro _ k' s hk ⟨rfl, rfl, rfl, hk1, hm, hm2⟩
    try dsimp only
    have hs2 : s ≤ 2 := hk
    have hmx : max (1 : Int) many = ((s : Nat) : Int) := by
      rcases (show s = 1 ∨ s = 2 by omega) with rfl | rfl
      · omega
      · have := hm2 (by decide); omega
    have hmn : min (2 : Int) ((s : Nat) : Int) = ((s : Nat) : Int) := by omega
    have hss : decide (((s : Nat) : Int) ≠ ((s : Nat) : Int)) = false := decide_eq_false (fun h => h rfl)
    repeat' (first | refine zh ?_ | refine zf ?_ | refine zt rfl ?_ | refine zr ?_ | refine zE ?_ | refine ze ?_ | refine zj ?_ | (refine za (id := 22) ?_; refine zz ?_; refine zai ?_; refine zb ?_; refine zz ?_; refine zz ?_; refine zA ?_; refine zz ?_; refine yv (zfH (hr := hmx)) (k := ?_); refine yv (zeT (hr := hmn)) (k := ?_); refine yv (zax (hr := hss)) (k := ?_); refine zx ?_; refine zb ?_; refine zz ?_; refine zai ?_; refine zb ?_; refine zo rfl rfl rfl ?_; refine zo rfl rfl rfl ?_; refine zo rfl rfl rfl ?_; refine zo rfl rfl rfl ?_; refine zx ?_; refine zx ?_) | (refine za (id := 24) ?_; refine zz ?_) | (refine za (id := 25) ?_; (refine zm ?_; intro _); refine zH ?_) | (refine za (id := 14) ?_; refine zz ?_; refine yv (zK (hr := ht0)) (k := ?_); refine zH ?_) | fail)
    rename_i bn
    refine zI (1, bn) ?_ ?_ ?_ ?_
    · show 1 ≤ 2; omega
    · show 2 - 1 < 2 - 0; omega
    · exact Sub.go
    · try dsimp only
      exact SubR.go2
end Go.Proofs.YtjidkoabdmjgkaaGreatDoor
