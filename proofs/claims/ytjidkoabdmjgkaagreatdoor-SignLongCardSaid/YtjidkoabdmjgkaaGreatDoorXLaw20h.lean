/- The statements about layer sign, walked: SignHolds, SignLong. -/
import Derived.Test.YtjidkoabdmjgkaaGreatDoorXJ48
set_option linter.all false
namespace Go.Nt
end Go.Nt
namespace Go.Proofs.YtjidkoabdmjgkaaGreatDoor
open Go Go.Sy Go.Nt Go.RowKit
attribute [local irreducible] Sy SyL SyX Sy.Fn callFunc natC rowN refC iC gP gQ gL memB safeC fixB gnum gel gsca chal Sh.sum glen
set_option maxRecDepth 10000
theorem zj3 {l : List UInt8} {z : Int} (h : (gsca z l).2 = 0) : 1 ≤ z ∧ z ≤ 4 := by
  by_cases hz : 1 ≤ z ∧ z ≤ 4
  · exact hz
  · unfold gsca at h; rw [if_neg hz] at h; cases h
theorem zmz {z : Int} {pl nl ml : List UInt8} (h : 65536 < ml.length) : sSig z pl nl ml = none := if_neg (fun h' => absurd h'.2.2.2 (by omega))
theorem zlc {z : Int} {seed x : List UInt8} (h : sPriv z seed = some x) : skey z x = true ∧ x.length = gL z.toNat ∧ 1 ≤ z ∧ z ≤ 4 := by
  unfold sPriv at h
  split at h
  · rename_i hk
    obtain ⟨he, h0⟩ := hk
    cases h
    have hz := zj3 he
    obtain ⟨i, rfl, hi, h0i, h5⟩ := zbc hz
    rw [zhd h0i h5] at h0 ⊢
    dsimp only at h0 ⊢
    rw [hi]
    have hQ0 : 0 < gQ i := Nat.lt_of_lt_of_le (by decide) (zak i h0i h5)
    have hq : bev 256 (bn seed) % gQ i < gQ i := Nat.mod_lt _ hQ0
    generalize bev 256 (bn seed) % gQ i = v at *
    have hl := za5 (gL i) v (zdl h0i h5 hq)
    refine ⟨?_, hl, hz⟩
    have hg : gnum (i : Int) (fixB (gL i) v) = (v, 0) := by
      unfold gnum
      rw [if_pos hz, hi, hl, if_neg (Nat.lt_irrefl _), if_neg (Nat.lt_irrefl _), zdF, if_pos hq]
    unfold skey
    rw [hg]
    simp [h0]
  · cases h
theorem zlj {z : Int} {x : List UInt8} (h : skey z x = true) : ∃ y, sPub z x = some y := ⟨_, if_pos h⟩
attribute [local irreducible] sPriv sPub sSig sVer
set_option maxHeartbeats 2000000 in
theorem zhl (z : Int) (a1 a2 a3 : Option Addr) (n1 c1 n2 c2 n3 c3 : Nat) (l1 l2 l3 : List UInt8) (w : World) (hG : GT w) (hT : Tab w No) (hS : ST w) (h1 : (⟨a1, n1, c1, l1⟩ : Bs).ok w) (h2 : (⟨a2, n2, c2, l2⟩ : Bs).ok w) (h3 : (⟨a3, n3, c3, l3⟩ : Bs).ok w) :
    Sy.Fn Tryz.prog 8 [.int .i64 z, .slice a1 n1 c1, .slice a2 n2 c2, .slice a3 n3 c3] w No (Gives (.bool true)) := by
  refine zq Tryz.func8 rfl Tryz.ntmps8 (by simp) Holds.nil ?_
  have hkn := fun w' (hk : Keep No w w') => zdP w' (hG.to hk) (hT.no hk) (hS.to hk)
  by_cases b1 : 200 < n1
  · repeat' (first | refine zh ?_ | refine zf ?_ | refine zw rfl ?_ | refine zp ?_ | refine ze ?_ | refine zj ?_ | refine zy ?_ | (refine za (id := 0) ?_; refine zd ?_) | (refine za (id := 1) ?_; refine zb ?_; refine zA ?_; refine z6 ?_; refine zb ?_; refine zo rfl rfl rfl ?_; refine zo rfl rfl rfl ?_; refine zo rfl rfl rfl ?_; refine zx ?_; refine zb ?_; refine zo rfl rfl rfl ?_; refine zo rfl rfl rfl ?_; refine zo rfl rfl rfl ?_; refine zx ?_) | (refine za (id := 2) ?_; refine yv (zi (f := 9) (hc := fun w' _ hk _ => hkn w' hk)) (k := ?_); refine zd ?_) | fail)
    exact ret1 rfl (resTmp rfl) SubR.nil ⟨rfl, rfl⟩
  by_cases b2 : 200 < n2
  · repeat' (first | refine zh ?_ | refine zf ?_ | refine zw rfl ?_ | refine zp ?_ | refine ze ?_ | refine zj ?_ | refine zy ?_ | (refine za (id := 0) ?_; refine zd ?_) | (refine za (id := 1) ?_; refine zb ?_; refine zA ?_; refine z6 ?_; refine zb ?_; refine zb ?_; refine zA ?_; refine z6 ?_; refine zx ?_; refine zb ?_; refine zo rfl rfl rfl ?_; refine zo rfl rfl rfl ?_; refine zo rfl rfl rfl ?_; refine zx ?_) | (refine za (id := 2) ?_; refine yv (zi (f := 9) (hc := fun w' _ hk _ => hkn w' hk)) (k := ?_); refine zd ?_) | fail)
    exact ret1 rfl (resTmp rfl) SubR.nil ⟨rfl, rfl⟩
  by_cases b3 : 200 < n3
  · repeat' (first | refine zh ?_ | refine zf ?_ | refine zw rfl ?_ | refine zp ?_ | refine ze ?_ | refine zj ?_ | refine zy ?_ | (refine za (id := 0) ?_; refine zd ?_) | (refine za (id := 1) ?_; refine zb ?_; refine zA ?_; refine z6 ?_; refine zb ?_; refine zb ?_; refine zA ?_; refine z6 ?_; refine zx ?_; refine zb ?_; refine zb ?_; refine zA ?_; refine z6 ?_; refine zx ?_) | (refine za (id := 2) ?_; refine yv (zi (f := 9) (hc := fun w' _ hk _ => hkn w' hk)) (k := ?_); refine zd ?_) | fail)
    exact ret1 rfl (resTmp rfl) SubR.nil ⟨rfl, rfl⟩
  have nm := fun e w' => ze9 e w'
  have hA := fun w' (hk : Keep No w w') => zfS z a1 n1 c1 l1 w' (hG.to hk) h1.len h1.cap (by omega) (h1.keep hk).sla
  cases hp : sPriv z l1 with
  | none =>
    have hA' := fun w' hk => (hA w' hk).mono (zbX (l := []) (n := 0) (e := 2) (by rw [hp]; rfl) rfl (by rw [hp]; rfl))
    unfold BRx at hA'
    repeat' (first | refine zh ?_ | refine zf ?_ | refine zw rfl ?_ | refine zt rfl ?_ | refine zr ?_ | refine zp ?_ | refine ze ?_ | refine zj ?_ | refine zy ?_ | (refine za (id := 0) ?_; refine zd ?_) | (refine za (id := 1) ?_; refine zb ?_; refine zA ?_; refine z6 ?_; refine zb ?_; refine zb ?_; refine zA ?_; refine z6 ?_; refine zx ?_; refine zb ?_; refine zb ?_; refine zA ?_; refine z6 ?_; refine zx ?_) | (refine za (id := 3) ?_; refine zb ?_; refine zb ?_; (refine ys (zF (f := 18) (hc := fun w' X hk hh => hA' w' hk)) (k := ?_); rintro _ _ ⟨R, rfl, aA, cA, rfl, rfl⟩); refine zb ?_; refine zk ?_; refine zk ?_; refine zd ?_; refine zd ?_) | (refine za (id := 4) ?_; refine zb ?_; refine yv (zi (hc := fun _ _ _ _ => (nm _ _))) (k := ?_); refine zW ?_) | (refine za (id := 5) ?_; refine zb ?_; refine zA ?_; refine zai ?_; refine zb ?_; refine yv (zi (f := 9) (hc := fun w' _ hk _ => hkn w' hk)) (k := ?_); refine zx ?_; refine zd ?_) | fail)
    exact ret1 rfl (resTmp rfl) SubR.nil ⟨rfl, rfl⟩
  | some x =>
  obtain ⟨hkey, hxl, hz1, hz4⟩ := zlc hp
  obtain ⟨y, hy⟩ := zlj hkey
  have hyl := zhv hy
  have hge := zfQ hy
  have hgl : glen z = gL z.toNat := by unfold glen; rw [if_pos ⟨hz1, hz4⟩]
  have hl96 := zcZ z
  rw [hgl] at hl96
  obtain ⟨len, hlen⟩ : ∃ n, n = gL z.toNat := ⟨_, rfl⟩
  rw [← hlen] at hxl hyl hgl hl96
  have hA' := fun w' hk => (hA w' hk).mono (zbX (l := x) (n := len) (e := 0) (by rw [hp]; rfl) hxl (by rw [hp]; rfl))
  have hB := fun w' (hk : Keep No w w') a c (hx : (⟨a, len, c, x⟩ : Bs).ok w') => (zfz z a len c x w' (hG.to hk) hx.len hx.cap hx.sla).mono (zbX (l := y) (n := len) (e := 0) (by rw [hy]; rfl) hyl (by rw [hy]; rfl))
  have hC := fun w' (hk : Keep No w w') a c (hx : (⟨a, len, c, x⟩ : Bs).ok w') => zf1 z a a2 a3 len c n2 c2 n3 c3 x l2 l3 w' (hG.to hk) (hT.no hk) hx (h2.keep hk) (h3.keep hk) (by omega) (by omega)
  have hV := fun w' (hk : Keep No w w') a c (hx : (⟨a, len, c, y⟩ : Bs).ok w') => zlu z a len c y w' (hG.to hk) hx.len hx.cap hx.sla
  rw [hge, decide_eq_true (show ((0 : Int) = 0) from rfl)] at hV
  have hL := fun w' (hk : Keep No w w') => zeR z w' (hG.to hk)
  rw [hgl] at hL
  unfold BRx at hA' hB
  cases hs : sSig z x l2 l3 with
  | none =>
    have hC' := fun w' hk a c hx => (hC w' hk a c hx).mono (zbX (l := []) (n := 0) (e := 2) (by rw [hs]; rfl) rfl (by rw [hs]; rfl))
    unfold BRx at hC'
    repeat' (first | refine zh ?_ | refine zf ?_ | refine zt rfl ?_ | refine zr ?_ | refine ze ?_ | refine zj ?_ | (refine za (id := 0) ?_; refine zd ?_) | (refine za (id := 1) ?_; refine zb ?_; refine zA ?_; refine z6 ?_; refine zb ?_; refine zb ?_; refine zA ?_; refine z6 ?_; refine zx ?_; refine zb ?_; refine zb ?_; refine zA ?_; refine z6 ?_; refine zx ?_) | (refine za (id := 3) ?_; refine zb ?_; refine zb ?_; (refine ys (zF (f := 18) (hc := fun w' X hk hh => hA' w' hk)) (k := ?_); rintro _ _ ⟨R, rfl, aA, cA, rfl, rfl⟩); refine zb ?_; refine zk ?_; refine zk ?_; refine zd ?_; refine zd ?_) | (refine za (id := 4) ?_; refine zb ?_; refine yv (zi (hc := fun _ _ _ _ => (nm _ _))) (k := ?_); refine zW ?_) | (refine za (id := 6) ?_; refine zb ?_; refine zb ?_; (refine ys (zF (f := 20) (hc := fun w' X hk hh => hB w' hk _ _ (zaD (E := 5) hh hxl (by exact Has.append Has.go)))) (k := ?_); rintro _ _ ⟨R, rfl, aB, cB, rfl, rfl⟩); refine zb ?_; refine zk ?_; refine zk ?_; refine zd ?_; refine zd ?_) | fail)
    repeat' (first | refine zh ?_ | refine zf ?_ | refine ze ?_ | refine zj ?_ | (refine za (id := 7) ?_; refine zb ?_; refine zb ?_; refine zb ?_; refine zb ?_; (refine ys (zF (f := 10) (hc := fun w' X hk hh => hC' w' hk _ _ (zaD (E := 5) hh hxl (by exact Has.append Has.go)))) (k := ?_); rintro _ _ ⟨R, rfl, aC, cC, rfl, rfl⟩); refine zb ?_; refine zk ?_; refine zk ?_; refine zd ?_; refine zd ?_) | fail)
    repeat' (first | refine zh ?_ | refine zf ?_ | refine ze ?_ | refine zj ?_ | (refine za (id := 8) ?_; refine zb ?_; refine zb ?_; refine zb ?_; refine zb ?_; (refine ys (zF (f := 10) (hc := fun w' X hk hh => hC' w' hk _ _ (zaD (E := 5) hh hxl (by exact Has.append Has.go)))) (k := ?_); rintro _ _ ⟨R, rfl, aD, cD, rfl, rfl⟩); refine zb ?_; refine zk ?_; refine zk ?_; refine zd ?_; refine zd ?_) | fail)
    repeat' (first | refine zh ?_ | refine zf ?_ | refine zw rfl ?_ | refine zt rfl ?_ | refine zr ?_ | refine zp ?_ | refine ze ?_ | refine zj ?_ | refine zy ?_ | (refine za (id := 9) ?_; refine zb ?_; refine yv (zi (hc := fun _ _ _ _ => (nm _ _))) (k := ?_); refine zW ?_; refine zb ?_; refine zb ?_; refine zb ?_; refine yv (zi (f := 22) (hc := fun w' X hk hh => hV w' hk _ _ (zaD (E := 5) hh hyl (by exact Has.append Has.go)))) (k := ?_); refine zau ?_; refine zx ?_; refine zb ?_; refine zb ?_; refine yv (zaZ (l := []) (hr := Rd.row Has.go)) (k := ?_); refine zb ?_; refine yv (zaZ (l := []) (hr := Rd.row Has.go)) (k := ?_); refine yv (zb5 (a := []) (b := []) (hr := rfl)) (k := ?_); refine zx ?_; refine zb ?_; refine zb ?_; refine yv (zi (hc := fun _ _ _ _ => (nm _ _))) (k := ?_); refine zb ?_; refine yv (zi (hc := fun _ _ _ _ => (nm _ _))) (k := ?_); refine zW ?_; refine zx ?_) | (refine za (id := 11) ?_; refine zb ?_; refine yv (zi (hc := fun _ _ _ _ => (nm _ _))) (k := ?_); refine zW ?_) | (refine za (id := 12) ?_; refine zb ?_; refine zA ?_; refine zai ?_; refine zb ?_; refine yv (zi (f := 9) (hc := fun w' _ hk _ => hkn w' hk)) (k := ?_); refine zx ?_; refine zd ?_) | fail)
    exact ret1 rfl (resTmp rfl) SubR.nil ⟨rfl, rfl⟩
  | some s =>
    have hsl := zhi hs
    rw [← hlen] at hsl
    have hv := ziu hy hs
    have hC' := fun w' hk a c hx => (hC w' hk a c hx).mono (zbX (l := s) (n := 2 * len) (e := 0) (by rw [hs]; rfl) hsl (by rw [hs]; rfl))
    have hVf := fun w' (hk : Keep No w w') a c a' c' (hyb : (⟨a, len, c, y⟩ : Bs).ok w') (hsb : (⟨a', 2 * len, c', s⟩ : Bs).ok w') => zcV z a a3 a' len c n3 c3 (2 * len) c' y l3 s w' (hG.to hk) (hT.no hk) (hS.to hk) hyb (h3.keep hk) hsb (by omega) (by omega) (by omega)
    rw [hv] at hVf
    unfold BRx at hC'
    have g2 : decide (((2 * len : Nat) : Int) = ((2 * len : Nat) : Int)) = true := decide_eq_true rfl
    obtain ⟨n4, hn4⟩ : ∃ n, n = 2 * len := ⟨_, rfl⟩
    rw [← hn4] at hC' hVf hL hsl g2
    repeat' (first | refine zh ?_ | refine zf ?_ | refine zt rfl ?_ | refine zr ?_ | refine ze ?_ | refine zj ?_ | (refine za (id := 0) ?_; refine zd ?_) | (refine za (id := 1) ?_; refine zb ?_; refine zA ?_; refine z6 ?_; refine zb ?_; refine zb ?_; refine zA ?_; refine z6 ?_; refine zx ?_; refine zb ?_; refine zb ?_; refine zA ?_; refine z6 ?_; refine zx ?_) | (refine za (id := 3) ?_; refine zb ?_; refine zb ?_; (refine ys (zF (f := 18) (hc := fun w' X hk hh => hA' w' hk)) (k := ?_); rintro _ _ ⟨R, rfl, aA, cA, rfl, rfl⟩); refine zb ?_; refine zk ?_; refine zk ?_; refine zd ?_; refine zd ?_) | (refine za (id := 4) ?_; refine zb ?_; refine yv (zi (hc := fun _ _ _ _ => (nm _ _))) (k := ?_); refine zW ?_) | (refine za (id := 6) ?_; refine zb ?_; refine zb ?_; (refine ys (zF (f := 20) (hc := fun w' X hk hh => hB w' hk _ _ (zaD (E := 5) hh hxl (by exact Has.append Has.go)))) (k := ?_); rintro _ _ ⟨R, rfl, aB, cB, rfl, rfl⟩); refine zb ?_; refine zk ?_; refine zk ?_; refine zd ?_; refine zd ?_) | fail)
    repeat' (first | refine zh ?_ | refine zf ?_ | refine ze ?_ | refine zj ?_ | (refine za (id := 7) ?_; refine zb ?_; refine zb ?_; refine zb ?_; refine zb ?_; (refine ys (zF (f := 10) (hc := fun w' X hk hh => hC' w' hk _ _ (zaD (E := 5) hh hxl (by exact Has.append Has.go)))) (k := ?_); rintro _ _ ⟨R, rfl, aC, cC, rfl, rfl⟩); refine zb ?_; refine zk ?_; refine zk ?_; refine zd ?_; refine zd ?_) | fail)
    repeat' (first | refine zh ?_ | refine zf ?_ | refine ze ?_ | refine zj ?_ | (refine za (id := 8) ?_; refine zb ?_; refine zb ?_; refine zb ?_; refine zb ?_; (refine ys (zF (f := 10) (hc := fun w' X hk hh => hC' w' hk _ _ (zaD (E := 5) hh hxl (by exact Has.append Has.go)))) (k := ?_); rintro _ _ ⟨R, rfl, aD, cD, rfl, rfl⟩); refine zb ?_; refine zk ?_; refine zk ?_; refine zd ?_; refine zd ?_) | fail)
    repeat' (first | refine zh ?_ | refine zf ?_ | refine zt rfl ?_ | refine zr ?_ | refine zp ?_ | refine ze ?_ | refine zj ?_ | (refine za (id := 9) ?_; refine zb ?_; refine yv (zi (hc := fun _ _ _ _ => (nm _ _))) (k := ?_); refine zW ?_; refine zb ?_; refine zb ?_; refine zb ?_; refine yv (zi (f := 22) (hc := fun w' X hk hh => hV w' hk _ _ (zaD (E := 5) hh hyl (by exact Has.append Has.go)))) (k := ?_); refine zau ?_; refine zx ?_; refine zb ?_; refine zb ?_; refine yv (zaZ (l := s) (hr := Rd.row Has.go) (hn := hsl)) (k := ?_); refine zb ?_; refine yv (zaZ (l := s) (hr := Rd.row Has.go) (hn := hsl)) (k := ?_); refine yv (zb5 (a := s) (b := s) (hr := decide_eq_false (fun h => h rfl))) (k := ?_); refine zx ?_; refine zb ?_; refine zb ?_; refine yv (zi (hc := fun _ _ _ _ => (nm _ _))) (k := ?_); refine zb ?_; refine yv (zi (hc := fun _ _ _ _ => (nm _ _))) (k := ?_); refine zW ?_; refine zx ?_) | (refine za (id := 11) ?_; refine zb ?_; refine yv (zi (hc := fun _ _ _ _ => (nm _ _))) (k := ?_); refine zW ?_) | (refine za (id := 13) ?_; refine zb ?_; refine zA ?_; refine zb ?_; refine yv (zi (f := 24) (hc := fun w' _ hk _ => hL w' hk)) (k := ?_); refine yv (z3 (hr := g2)) (k := ?_); refine zb ?_; refine zb ?_; refine zb ?_; refine zb ?_; refine zb ?_; refine yv (zi (f := 13) (hc := fun w' X hk hh => hVf w' hk aB cB aC cC (zaD (E := 5) hh hyl (by exact Has.append Has.go)) (zaD (E := 5) hh hsl (by exact Has.append Has.go)))) (k := ?_); refine yv (zi (hc := fun _ _ _ _ => (nm _ _))) (k := ?_); refine zai ?_; refine zx ?_; refine zb ?_; refine yv (zi (f := 9) (hc := fun w' _ hk _ => hkn w' hk)) (k := ?_); refine zx ?_; refine zd ?_) | fail)
    exact ret1 rfl (resTmp rfl) SubR.nil ⟨rfl, rfl⟩
set_option maxHeartbeats 2000000 in
theorem zih (z0 z1 : Int) (w : World) (hG : GT w) (hT : Tab w No) (hS : ST w) (_ : -9223372036854775808 ≤ z0) (_ : z0 < 9223372036854775808) (hz1 : 0 ≤ z1 ∧ z1 < 256) :
    Sy.Fn Tryz.prog 5 [.int .i64 z0, .int .u8 z1] w No (Gives (.bool true)) := by
  obtain ⟨c, hc⟩ : ∃ c : UInt8, Value.int .u8 z1 = v8 c := by
    refine ⟨UInt8.ofNat z1.toNat, ?_⟩
    rw [← v8_lit z1.toNat (by omega), Int.toNat_of_nonneg hz1.1]
  rw [hc]
  refine zq Tryz.func5 rfl Tryz.ntmps5 (by simp) Holds.nil ?_
  have hkn := fun w' (hk : Keep No w w') => zdP w' (hG.to hk) (hT.no hk) (hS.to hk)
  by_cases b1 : z0 < 65530
  · repeat' (first | refine zh ?_ | refine zf ?_ | refine zw rfl ?_ | refine zp ?_ | refine ze ?_ | refine zj ?_ | refine zy ?_ | (refine za (id := 0) ?_; refine zd ?_) | (refine za (id := 1) ?_; refine zb ?_; refine zX ?_; refine zb ?_; refine zo rfl rfl rfl ?_; refine zo rfl rfl rfl ?_; refine zx ?_) | (refine za (id := 2) ?_; refine yv (zi (f := 9) (hc := fun w' _ hk _ => hkn w' hk)) (k := ?_); refine zd ?_) | fail)
    exact ret1 rfl (resTmp rfl) SubR.nil ⟨rfl, rfl⟩
  by_cases b2 : 65540 < z0
  · repeat' (first | refine zh ?_ | refine zf ?_ | refine zw rfl ?_ | refine zp ?_ | refine ze ?_ | refine zj ?_ | refine zy ?_ | (refine za (id := 0) ?_; refine zd ?_) | (refine za (id := 1) ?_; refine zb ?_; refine zX ?_; refine zb ?_; refine zb ?_; refine z6 ?_; refine zx ?_) | (refine za (id := 2) ?_; refine yv (zi (f := 9) (hc := fun w' _ hk _ => hkn w' hk)) (k := ?_); refine zd ?_) | fail)
    exact ret1 rfl (resTmp rfl) SubR.nil ⟨rfl, rfl⟩
  obtain ⟨n, rfl⟩ : ∃ n : Nat, z0 = (n : Int) := ⟨z0.toNat, by omega⟩
  repeat' (first | refine zh ?_ | refine zf ?_ | refine zt rfl ?_ | refine zu ?_ | refine zr ?_ | refine ze ?_ | refine zj ?_ | (refine za (id := 0) ?_; refine zd ?_) | (refine za (id := 1) ?_; refine zb ?_; refine zX ?_; refine zb ?_; refine zb ?_; refine z6 ?_; refine zx ?_) | (refine za (id := 3) ?_; refine zd ?_) | (refine za (id := 4) ?_; refine zd ?_) | fail)
  refine zbv (zaS 5 1) ?_
  refine zQ (γ := Nat × Option Addr × Nat) (fun g => [(0, .int .i64 (n : Int)), (1, v8 c), (5, .slice g.2.1 g.1 g.2.2), (6, .int .i64 ((g.1 : Nat) : Int))]) (fun g => [.row (.slice g.2.1 g.1 g.2.2) 5 1 g.1 ((List.replicate g.1 c).map v8)]) (fun g => g.1 ≤ n) (fun g => n - g.1) (0, none, 0) (Nat.zero_le _) ?_ ?_ ?_
  · exact Sub.go
  · exact SubR.go
  rintro ⟨k, aM, cM⟩ hk
  dsimp only at hk ⊢
  rcases Nat.lt_or_ge k n with h | h
  · have hlt : decide ((k : Int) < (n : Int)) = true := decide_eq_true (by omega)
    have hadd : IntKind.i64.wrap ((k : Int) + 1) = ((k + 1 : Nat) : Int) := by rw [IntWalk.i64_in _ (by omega)]; omega
    have hys : (List.replicate k c).map v8 ++ [v8 c] = (List.replicate (k + 1) c).map v8 := by
      rw [List.replicate_succ', List.map_append]; rfl
    obtain ⟨Y, hY⟩ : ∃ Y, Y = (List.replicate (k + 1) c).map v8 := ⟨_, rfl⟩
    rw [← hY] at hys
    generalize (List.replicate k c).map v8 = X at *
    repeat' (first | refine zh ?_ | refine zf ?_ | refine zw rfl ?_ | refine zu ?_ | refine zr ?_ | refine ze ?_ | refine zj ?_ | (refine za (id := 5) ?_; refine zb ?_; refine zb ?_; refine yv (zS (hr := hlt)) (k := ?_)) | (refine za (id := 7) ?_; refine zb ?_; refine zb ?_; (refine ys zJ (k := ?_); rintro _ _ ⟨_, rfl, rfl⟩); (refine ys (zaA (m := 1) (size := 1) (xs := X) (news := [v8 c]) (ys := Y) (km := k + 1) (hkm := rfl) (hys := hys)) (k := ?_); rintro _ _ ⟨rfl, aQ, cQ, rfl⟩); refine zd ?_) | (refine za (id := 6) ?_; refine zb ?_; refine yv (zK (hr := hadd)) (k := ?_); refine zd ?_) | fail)
    refine zI (k + 1, aQ, cQ) h ?_ ?_ ?_
    · show n - (k + 1) < n - k; omega
    · exact Sub.go
    · dsimp only
      rw [← hY]
      exact SubR.go2
  obtain rfl : k = n := by omega
  have hlt : decide ((k : Int) < (k : Int)) = false := decide_eq_false (by omega)
  have nm := fun e w' => ze9 e w'
  have hml : (List.replicate k c).length = k := List.length_replicate
  generalize List.replicate k c = m at *
  have hSg := fun w' b b' (hk' : Keep No w w') (h : (⟨some ⟨b, 0, none⟩, 2, 2, [0, 6]⟩ : Bs).ok w') (h' : (⟨some ⟨b', 0, none⟩, 1, 1, [7]⟩ : Bs).ok w') (h'' : (⟨aM, k, cM, m⟩ : Bs).ok w') => zf1 1 (some ⟨b, 0, none⟩) (some ⟨b', 0, none⟩) aM 2 2 1 1 k cM [0, 6] [7] m w' (hG.to hk') (hT.no hk') h h' h'' (by decide) (by omega)
  by_cases hbig : 65536 < k
  · have hno : sSig 1 [0, 6] [7] m = none := zmz (by omega)
    have hSg' := fun w' b b' hk' h h' h'' => (hSg w' b b' hk' h h' h'').mono (zbX (l := []) (n := 0) (e := 2) (by rw [hno]; rfl) rfl (by rw [hno]; rfl))
    have hV := fun w' b b' (hk' : Keep No w w') (h : (⟨some ⟨b, 0, none⟩, 2, 2, [4, 193]⟩ : Bs).ok w') (h' : (⟨aM, k, cM, m⟩ : Bs).ok w') (h'' : (⟨some ⟨b', 0, none⟩, 4, 4, [0, 0, 0, 0]⟩ : Bs).ok w') => zcV 1 (some ⟨b, 0, none⟩) aM (some ⟨b', 0, none⟩) 2 2 k cM 4 4 [4, 193] m [0, 0, 0, 0] w' (hG.to hk') (hT.no hk') (hS.to hk') h h' h'' (by decide) (by omega) (by decide)
    rw [zg3 (.inr (by omega))] at hV
    unfold BRx at hSg'
    repeat' (first | refine zh ?_ | refine zf ?_ | refine zw rfl ?_ | refine zt rfl ?_ | refine zp ?_ | refine zE ?_ | refine ze ?_ | refine zj ?_ | refine zy ?_ | (refine za (id := 5) ?_; refine zb ?_; refine zb ?_; refine yv (zS (hr := hlt)) (k := ?_)) | (refine za (id := 8) ?_; (refine ys zJ (k := ?_); rintro _ _ ⟨_, rfl, rfl⟩); (refine ys zJ (k := ?_); rintro _ _ ⟨_, rfl, rfl⟩); refine zb ?_; (refine ys (zF (f := 10) (hc := fun w' X hk hh => hSg' w' _ _ hk (zbp (E := 5) (l := [0, 6]) hh rfl (by exact Has.append Has.go)) (zbp (E := 5) (l := [7]) hh rfl (by exact Has.append Has.go)) (zaD (E := 5) hh hml (by exact Has.append Has.go)))) (k := ?_); rintro _ _ ⟨R, rfl, aC, cC, rfl, rfl⟩); refine zb ?_; refine zk ?_; refine zk ?_; refine zd ?_; refine zd ?_) | (refine za (id := 9) ?_; refine zb ?_; refine z6 ?_) | (refine za (id := 10) ?_; refine zb ?_; refine zA ?_; refine zai ?_; refine zb ?_; refine zb ?_; refine yv (zi (hc := fun _ _ _ _ => (nm _ _))) (k := ?_); refine zai ?_; refine zx ?_; refine zb ?_; (refine ys zJ (k := ?_); rintro _ _ ⟨_, rfl, rfl⟩); refine zb ?_; (refine ys zJ (k := ?_); rintro _ _ ⟨_, rfl, rfl⟩); refine yv (zi (f := 13) (hc := fun w' X hk hh => hV w' _ _ hk (zbp (E := 5) (l := [4, 193]) hh rfl (by exact Has.append Has.go)) (zaD (E := 5) hh hml (by exact Has.append Has.go)) (zbp (E := 5) (l := [0, 0, 0, 0]) hh rfl (by exact Has.append Has.go)))) (k := ?_); refine yv (zi (hc := fun _ _ _ _ => (nm _ _))) (k := ?_); refine zai ?_; refine zx ?_; refine zb ?_; refine yv (zi (f := 9) (hc := fun w' _ hk _ => hkn w' hk)) (k := ?_); refine zx ?_; refine zd ?_) | fail)
    exact ret1 rfl (resTmp rfl) SubR.nil ⟨rfl, rfl⟩
  · obtain ⟨s, s1, s2, s3, -⟩ := zlE m (by omega)
    have hSg' := fun w' b b' hk' h h' h'' => (hSg w' b b' hk' h h' h'').mono (zbX (l := s) (n := 4) (e := 0) (by rw [s1]; rfl) s2 (by rw [s1]; rfl))
    have hV := fun w' b a' c' (hk' : Keep No w w') (h : (⟨some ⟨b, 0, none⟩, 2, 2, [4, 193]⟩ : Bs).ok w') (h' : (⟨aM, k, cM, m⟩ : Bs).ok w') (h'' : (⟨a', 4, c', s⟩ : Bs).ok w') => zcV 1 (some ⟨b, 0, none⟩) aM a' 2 2 k cM 4 c' [4, 193] m s w' (hG.to hk') (hT.no hk') (hS.to hk') h h' h'' (by decide) (by omega) (by decide)
    rw [s3] at hV
    unfold BRx at hSg'
    repeat' (first | refine zh ?_ | refine zf ?_ | refine zt rfl ?_ | refine zr ?_ | refine zp ?_ | refine zE ?_ | refine ze ?_ | refine zj ?_ | (refine za (id := 5) ?_; refine zb ?_; refine zb ?_; refine yv (zS (hr := hlt)) (k := ?_)) | (refine za (id := 8) ?_; (refine ys zJ (k := ?_); rintro _ _ ⟨_, rfl, rfl⟩); (refine ys zJ (k := ?_); rintro _ _ ⟨_, rfl, rfl⟩); refine zb ?_; (refine ys (zF (f := 10) (hc := fun w' X hk hh => hSg' w' _ _ hk (zbp (E := 5) (l := [0, 6]) hh rfl (by exact Has.append Has.go)) (zbp (E := 5) (l := [7]) hh rfl (by exact Has.append Has.go)) (zaD (E := 5) hh hml (by exact Has.append Has.go)))) (k := ?_); rintro _ _ ⟨R, rfl, aC, cC, rfl, rfl⟩); refine zb ?_; refine zk ?_; refine zk ?_; refine zd ?_; refine zd ?_) | (refine za (id := 9) ?_; refine zb ?_; refine z6 ?_) | (refine za (id := 11) ?_; refine zb ?_; refine yv (zi (hc := fun _ _ _ _ => (nm _ _))) (k := ?_); refine zai ?_; refine zb ?_; (refine ys zJ (k := ?_); rintro _ _ ⟨_, rfl, rfl⟩); refine zb ?_; refine zb ?_; refine yv (zi (f := 13) (hc := fun w' X hk hh => hV w' _ _ _ hk (zbp (E := 5) (l := [4, 193]) hh rfl (by exact Has.append Has.go)) (zaD (E := 5) hh hml (by exact Has.append Has.go)) (zaD (E := 5) hh s2 (by exact Has.append Has.go)))) (k := ?_); refine yv (zi (hc := fun _ _ _ _ => (nm _ _))) (k := ?_); refine zai ?_; refine zx ?_; refine zb ?_; refine yv (zi (f := 9) (hc := fun w' _ hk _ => hkn w' hk)) (k := ?_); refine zx ?_; refine zd ?_) | fail)
    exact ret1 rfl (resTmp rfl) SubR.nil ⟨rfl, rfl⟩
end Go.Proofs.YtjidkoabdmjgkaaGreatDoor
