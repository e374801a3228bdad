/- The statements about layer sign: results as bytes and an error; the chapter's examples. -/
import Derived.Test.YtjidkoabdmjgkaaGreatDoorXJ47
set_option linter.all false
section
namespace Go.Proofs.YtjidkoabdmjgkaaGreatDoor
open Go Go.Sy Go.Nt Go.RowKit
attribute [local irreducible] Sy SyL SyX Sy.Fn callFunc natC rowN refC iC gP gQ gL memB safeC fixB gnum gel gsca chal Sh.sum glen
set_option maxRecDepth 10000
def BRx (l : List UInt8) (n : Nat) (e : Int) (v : Value) (R : List Res) : Prop := ∃ a c, v = .tuple #[.slice a n c, .int .i64 e] ∧ R = [.row (.slice a n c) 5 1 n (l.map v8)]
theorem zbX {o : Option (List UInt8)} {l : List UInt8} {n : Nat} {e : Int} (h : o.getD [] = l) (hn : l.length = n) (he : (if o.isSome then (0 : Int) else 2) = e) (v : Value) (R : List Res) (hb : BR o v R) : BRx l n e v R := by
  obtain ⟨a, m, c, rfl, rfl, rfl⟩ := hb
  subst h; subst hn; subst he
  exact ⟨a, c, rfl, rfl⟩
theorem ze9 (e : Int) (w : World) : Sy.Fn Tryz.prog 12 [.int .i64 e] w No (Gives (.int .i64 e)) := by
  refine zq Tryz.func12 rfl Tryz.ntmps12 (by simp) Holds.nil ?_
  repeat' (first | refine zh ?_ | refine zf ?_ | refine zp ?_ | refine ze ?_ | refine zj ?_ | (refine za (id := 0) ?_; refine zd ?_) | (refine za (id := 1) ?_; refine zb ?_; refine zd ?_) | fail)
  exact ret1 rfl (resTmp rfl) SubR.nil ⟨rfl, rfl⟩
theorem zbp {B0 : Nat} {w : World} {M : Nat → Prop} {E b n : Nat} {l : List UInt8} {L : List Res} (hh : Holds B0 M L w) (hl : l.length = n) (hL : Has L (.blk b E (l.map v8))) : (⟨some ⟨b, 0, none⟩, n, n, l⟩ : Bs).ok w :=
  ⟨hl, Nat.le_refl _, .inr ⟨b, 0, rfl, zL (hh.has hL) Seg.all⟩, fun h => by cases h⟩
theorem zhL {w w' : World} {L X : List Res} {E b n : Nat} {l : List UInt8} (hk : Keep No w w') (hh : Holds w.heap.size No (L ++ X) w') (hl : l.length = n) (hL : Has L (objB E b l)) : (⟨some ⟨b, 0, none⟩, n, n, l⟩ : Bs).ok w' :=
  ⟨hl, Nat.le_refl _, (Rd.objB hL) w' X hk hh, fun h => by cases h⟩
theorem zl5 {B0 : Nat} {w : World} {M : Nat → Prop} {E n m c : Nat} {a : Option Addr} {l : List UInt8} {L : List Res} (hh : Holds B0 M L w) (hl : l.length = n) (hm : m ≤ n) (hL : Has L (.row (.slice a n c) E 1 n (l.map v8))) : (⟨a, m, c, l.take m⟩ : Bs).ok w :=
  ⟨by show (l.take m).length = m; rw [List.length_take]; omega, Nat.le_trans hm (Row.cap hh hL), by show SlA w a ((l.take m).map v8); rw [List.map_take]; exact (z9 hh hL).take m, fun h => (Row.nil hh hL h).1⟩
end Go.Proofs.YtjidkoabdmjgkaaGreatDoor
namespace Go.Proofs.YtjidkoabdmjgkaaGreatDoor
open Go Go.Sy Go.Nt Go.RowKit
attribute [local irreducible] Sy SyL SyX Sy.Fn callFunc natC rowN refC iC memB safeC chal Sh.sum
set_option maxRecDepth 10000
theorem zhi {z : Int} {key nonce m s : List UInt8} (hs : sSig z key nonce m = some s) : s.length = 2 * gL z.toNat := by
  unfold sSig at hs
  split at hs
  · rename_i hk
    obtain ⟨hk, -, -, -⟩ := hk
    cases hs
    unfold skey at hk
    rw [Bool.and_eq_true, decide_eq_true_eq] at hk
    obtain ⟨i, -, hi, h0, h5⟩ := zbc (zc3 hk.1).1
    rw [hi]
    have hQ0 : 0 < gQ i := Nat.lt_of_lt_of_le (by decide) (zak i h0 h5)
    have hE : sE i (gnum z key).1 (gsca z nonce).1 m < gQ i := zeO h0 h5 _ _ _
    have hS : sS i (gnum z key).1 (gsca z nonce).1 m < gQ i := Nat.mod_lt _ hQ0
    rw [List.length_append, za5 _ _ (zdl h0 h5 hE), za5 _ _ (zdl h0 h5 hS)]
    omega
  · cases hs
theorem fix2 (a b : Nat) (ha : a < 256) (hb : 0 < b ∧ b < 256) : fixB 2 (a * 256 + b) = [UInt8.ofNat a, UInt8.ofNat b] := by
  by_cases h0 : a = 0
  · subst h0
    have n1 : nd 256 (0 * 256 + b) = 1 := zbi 256 _ 1 (by decide) (by omega) (fun _ => by omega)
    unfold fixB byt be cd
    rw [n1]
    simp [dg, Nat.mod_eq_of_lt hb.2]
  · have n2 : nd 256 (a * 256 + b) = 2 := zbi 256 _ 2 (by decide) (by omega) (fun _ => by omega)
    unfold fixB byt be cd
    rw [n2]
    have h1 : (a * 256 + b) % 256 = b := by omega
    have h2 : (a * 256 + b) / 256 % 256 = a := by omega
    simp [dg, h1, h2]
theorem ziJ : sPriv 1 [6] = some [0, 6] := by
  have hg : gsca 1 [6] = (6, 0) := by unfold gsca; rw [if_pos (by decide)]; decide +kernel
  unfold sPriv
  rw [hg, if_pos ⟨rfl, by decide⟩]
  have := fix2 0 6 (by decide) (by decide)
  exact congrArg some this
theorem zhu : skey 1 [0, 6] = true ∧ (gnum 1 [0, 6]).1 = 6 := by
  have hg : gnum 1 [0, 6] = (6, 0) := by decide +kernel
  unfold skey
  rw [hg]; exact ⟨rfl, rfl⟩
theorem zfA : sPub 1 [0, 6] = some [4, 193] := by
  unfold sPub
  rw [if_pos zhu.1, zhu.2]
  have h : 4 ^ 6 % gP (1 : Int).toNat = 4 * 256 + 193 := by decide +kernel
  rw [h]
  exact congrArg some (fix2 4 193 (by decide) (by decide))
theorem ziy : sPriv 1 [5, 159] = none := by
  have hg : gsca 1 [5, 159] = (0, 0) := by unfold gsca; rw [if_pos (by decide)]; decide +kernel
  unfold sPriv
  rw [hg, if_neg (fun h => h.2 rfl)]
theorem zkz : sPub 1 [6] = none := by
  have hg : gnum 1 [6] = (0, 4) := by decide +kernel
  unfold sPub skey
  rw [hg, if_neg (by decide)]
theorem zkt : sPub 9 [0, 6] = none := by
  have hg : gnum 9 [0, 6] = (0, 2) := by unfold gnum; rw [if_neg (by decide)]
  unfold sPub skey
  rw [hg, if_neg (by decide)]
theorem zlE (m : List UInt8) (hm : m.length ≤ 65536) : ∃ s : List UInt8, sSig 1 [0, 6] [7] m = some s ∧ s.length = 4 ∧ sVer 1 [4, 193] m s = 0 ∧ sVer 1 [4, 193] m (s.take 3) = 10 := by
  have hg : gsca 1 [7] = (7, 0) := by unfold gsca; rw [if_pos (by decide)]; decide +kernel
  have hs := zgE (z := 1) (pl := [0, 6]) (nl := [7]) (ml := m) zhu.1 (by rw [hg]) (by rw [hg]; decide) hm
  have hl := zhi hs
  refine ⟨_, hs, hl, ziu zfA hs, zg0 ?_ ?_⟩
  · rintro (h | h)
    · rw [zfQ zfA] at h; exact h rfl
    · omega
  · rw [List.length_take, hl]; decide
end Go.Proofs.YtjidkoabdmjgkaaGreatDoor
end
section
namespace Go.Proofs.YtjidkoabdmjgkaaGreatDoor
open Go Go.Sy Go.Nt Go.RowKit
attribute [local irreducible] Sy SyL SyX Sy.Fn callFunc natC rowN refC iC gP gQ gL memB safeC fixB gnum gel gsca chal Sh.sum glen sPriv sPub sSig sVer
set_option maxRecDepth 10000
set_option maxHeartbeats 2000000 in
theorem zdP (w : World) (hG : GT w) (hT : Tab w No) (hS : ST w) : Sy.Fn Tryz.prog 9 [] w No (Gives (.bool true)) := by
  refine zq Tryz.func9 rfl Tryz.ntmps9 (by simp) Holds.nil ?_
  have nm := fun e w' => ze9 e w'
  have hP1 := fun w' b (hk : Keep No w w') (h : (⟨some ⟨b, 0, none⟩, 1, 1, [6]⟩ : Bs).ok w') => (zfS 1 (some ⟨b, 0, none⟩) 1 1 [6] w' (hG.to hk) h.len h.cap (by decide) h.sla).mono (zbX (l := [0, 6]) (n := 2) (e := 0) (by rw [ziJ]; rfl) rfl (by rw [ziJ]; rfl))
  have hU1 := fun w' b (hk : Keep No w w') (h : (⟨some ⟨b, 0, none⟩, 2, 2, [0, 6]⟩ : Bs).ok w') => (zfz 1 (some ⟨b, 0, none⟩) 2 2 [0, 6] w' (hG.to hk) h.len h.cap h.sla).mono (zbX (l := [4, 193]) (n := 2) (e := 0) (by rw [zfA]; rfl) rfl (by rw [zfA]; rfl))
  have hP2 := fun w' b (hk : Keep No w w') (h : (⟨some ⟨b, 0, none⟩, 2, 2, [5, 159]⟩ : Bs).ok w') => (zfS 1 (some ⟨b, 0, none⟩) 2 2 [5, 159] w' (hG.to hk) h.len h.cap (by decide) h.sla).mono (zbX (l := []) (n := 0) (e := 2) (by rw [ziy]; rfl) rfl (by rw [ziy]; rfl))
  have hU2 := fun w' b (hk : Keep No w w') (h : (⟨some ⟨b, 0, none⟩, 1, 1, [6]⟩ : Bs).ok w') => (zfz 1 (some ⟨b, 0, none⟩) 1 1 [6] w' (hG.to hk) h.len h.cap h.sla).mono (zbX (l := []) (n := 0) (e := 2) (by rw [zkz]; rfl) rfl (by rw [zkz]; rfl))
  have hU3 := fun w' b (hk : Keep No w w') (h : (⟨some ⟨b, 0, none⟩, 2, 2, [0, 6]⟩ : Bs).ok w') => (zfz 9 (some ⟨b, 0, none⟩) 2 2 [0, 6] w' (hG.to hk) h.len h.cap h.sla).mono (zbX (l := []) (n := 0) (e := 2) (by rw [zkt]; rfl) rfl (by rw [zkt]; rfl))
  obtain ⟨s, s1, s2, s3, s4⟩ := zlE [109] (by decide)
  have hSg := fun w' b b' b'' (hk : Keep No w w') (h : (⟨some ⟨b, 0, none⟩, 2, 2, [0, 6]⟩ : Bs).ok w') (h' : (⟨some ⟨b', 0, none⟩, 1, 1, [7]⟩ : Bs).ok w') (h'' : (⟨some ⟨b'', 0, none⟩, 1, 1, [109]⟩ : Bs).ok w') => (zf1 1 (some ⟨b, 0, none⟩) (some ⟨b', 0, none⟩) (some ⟨b'', 0, none⟩) 2 2 1 1 1 1 [0, 6] [7] [109] w' (hG.to hk) (hT.no hk) h h' h'' (by decide) (by decide)).mono (zbX (l := s) (n := 4) (e := 0) (by rw [s1]; rfl) s2 (by rw [s1]; rfl))
  have hV1 := fun w' a c b a' c' (hk : Keep No w w') (h : (⟨a, 2, c, [4, 193]⟩ : Bs).ok w') (h' : (⟨some ⟨b, 0, none⟩, 1, 1, [109]⟩ : Bs).ok w') (h'' : (⟨a', 4, c', s⟩ : Bs).ok w') => zcV 1 a (some ⟨b, 0, none⟩) a' 2 c 1 1 4 c' [4, 193] [109] s w' (hG.to hk) (hT.no hk) (hS.to hk) h h' h'' (by decide) (by decide) (by decide)
  rw [s3] at hV1
  have hV2 := fun w' a c b a' c' (hk : Keep No w w') (h : (⟨a, 2, c, [4, 193]⟩ : Bs).ok w') (h' : (⟨some ⟨b, 0, none⟩, 1, 1, [109]⟩ : Bs).ok w') (h'' : (⟨a', 3, c', s.take 3⟩ : Bs).ok w') => zcV 1 a (some ⟨b, 0, none⟩) a' 2 c 1 1 3 c' [4, 193] [109] (s.take 3) w' (hG.to hk) (hT.no hk) (hS.to hk) h h' h'' (by decide) (by decide) (by decide)
  rw [s4] at hV2
  have hl1 := fun w' (hk : Keep No w w') => zeR 1 w' (hG.to hk)
  have hl4 := fun w' (hk : Keep No w w') => zeR 4 w' (hG.to hk)
  rw [show glen 1 = 2 from by decide +kernel] at hl1
  rw [show glen 4 = 96 from by decide +kernel] at hl4
  unfold BRx at hP1 hU1 hP2 hU2 hU3 hSg
  clear s1 s3 s4
  repeat' (first | refine zh ?_ | refine zf ?_ | refine ze ?_ | refine zj ?_ | (refine za (id := 0) ?_; refine zd ?_) | (refine za (id := 1) ?_; (refine ys zJ (k := ?_); rintro _ _ ⟨_, rfl, rfl⟩); (refine ys (zF (f := 18) (hc := fun w' X hk hh => hP1 w' _ hk (zbp (E := 5) (l := [6]) hh rfl (by exact Has.append Has.go)))) (k := ?_); rintro _ _ ⟨R, rfl, a1, c1, rfl, rfl⟩); refine zb ?_; refine zk ?_; refine zk ?_; refine zd ?_; refine zd ?_) | fail)
  repeat' (first | refine zh ?_ | refine zf ?_ | refine ze ?_ | refine zj ?_ | (refine za (id := 2) ?_; (refine ys zJ (k := ?_); rintro _ _ ⟨_, rfl, rfl⟩); (refine ys (zF (f := 20) (hc := fun w' X hk hh => hU1 w' _ hk (zbp (E := 5) (l := [0, 6]) hh rfl (by exact Has.append Has.go)))) (k := ?_); rintro _ _ ⟨R, rfl, a2, c2, rfl, rfl⟩); refine zb ?_; refine zk ?_; refine zk ?_; refine zd ?_; refine zd ?_) | fail)
  repeat' (first | refine zh ?_ | refine zf ?_ | refine ze ?_ | refine zj ?_ | (refine za (id := 3) ?_; (refine ys zJ (k := ?_); rintro _ _ ⟨_, rfl, rfl⟩); (refine ys (zF (f := 18) (hc := fun w' X hk hh => hP2 w' _ hk (zbp (E := 5) (l := [5, 159]) hh rfl (by exact Has.append Has.go)))) (k := ?_); rintro _ _ ⟨R, rfl, a3, c3, rfl, rfl⟩); refine zb ?_; refine zk ?_; refine zk ?_; refine zd ?_; refine zd ?_) | fail)
  repeat' (first | refine zh ?_ | refine zf ?_ | refine ze ?_ | refine zj ?_ | (refine za (id := 4) ?_; (refine ys zJ (k := ?_); rintro _ _ ⟨_, rfl, rfl⟩); (refine ys (zF (f := 20) (hc := fun w' X hk hh => hU2 w' _ hk (zbp (E := 5) (l := [6]) hh rfl (by exact Has.append Has.go)))) (k := ?_); rintro _ _ ⟨R, rfl, a4, c4, rfl, rfl⟩); refine zb ?_; refine zk ?_; refine zk ?_; refine zd ?_; refine zd ?_) | fail)
  repeat' (first | refine zh ?_ | refine zf ?_ | refine ze ?_ | refine zj ?_ | (refine za (id := 5) ?_; (refine ys zJ (k := ?_); rintro _ _ ⟨_, rfl, rfl⟩); (refine ys (zF (f := 20) (hc := fun w' X hk hh => hU3 w' _ hk (zbp (E := 5) (l := [0, 6]) hh rfl (by exact Has.append Has.go)))) (k := ?_); rintro _ _ ⟨R, rfl, a5, c5, rfl, rfl⟩); refine zb ?_; refine zk ?_; refine zk ?_; refine zd ?_; refine zd ?_) | fail)
  refine Sy.weaken (fr' := [(1, .slice a1 2 c1), (2, .int .i64 0), (3, .slice a2 2 c2), (4, .int .i64 0), (6, .int .i64 2), (8, .int .i64 2), (10, .int .i64 2)]) (L' := [.row (.slice a1 2 c1) 5 1 2 (([0, 6] : List UInt8).map v8), .row (.slice a2 2 c2) 5 1 2 (([4, 193] : List UInt8).map v8)]) ?_ (by exact Sub.go) (by exact SubR.go2)
  repeat' (first | refine zh ?_ | refine zf ?_ | refine ze ?_ | refine zj ?_ | (refine za (id := 6) ?_; (refine ys zJ (k := ?_); rintro _ _ ⟨_, rfl, rfl⟩); (refine ys zJ (k := ?_); rintro _ _ ⟨_, rfl, rfl⟩); (refine ys zJ (k := ?_); rintro _ _ ⟨_, rfl, rfl⟩); refine zbQ ?_; (refine ys (zF (f := 10) (hc := fun w' X hk hh => hSg w' _ _ _ hk (zbp (E := 5) (l := [0, 6]) hh rfl (by exact Has.append Has.go)) (zbp (E := 5) (l := [7]) hh rfl (by exact Has.append Has.go)) (zhL (E := 5) (l := [109]) hk hh rfl Has.go))) (k := ?_); rintro _ _ ⟨R, rfl, aS, cS, rfl, rfl⟩); refine zb ?_; refine zk ?_; refine zk ?_; refine zd ?_; refine zd ?_) | fail)
  refine Sy.weaken (fr' := [(1, .slice a1 2 c1), (2, .int .i64 0), (3, .slice a2 2 c2), (4, .int .i64 0), (6, .int .i64 2), (8, .int .i64 2), (10, .int .i64 2), (11, .slice aS 4 cS), (12, .int .i64 0)]) (L' := [.row (.slice a1 2 c1) 5 1 2 (([0, 6] : List UInt8).map v8), .row (.slice a2 2 c2) 5 1 2 (([4, 193] : List UInt8).map v8), .row (.slice aS 4 cS) 5 1 4 (s.map v8)]) ?_ (by exact Sub.go) (by exact SubR.go2)
  repeat' (first | refine zh ?_ | refine zf ?_ | refine zt rfl ?_ | refine zr ?_ | refine ze ?_ | refine zj ?_ | (refine za (id := 7) ?_; refine zb ?_; refine yv (zi (hc := fun _ _ _ _ => (nm _ _))) (k := ?_); refine zb ?_; refine yv (zi (hc := fun _ _ _ _ => (nm _ _))) (k := ?_); refine zah ?_; refine zb ?_; refine yv (zi (hc := fun _ _ _ _ => (nm _ _))) (k := ?_); refine zah ?_; refine zW ?_; refine zb ?_; refine zb ?_; refine yv (zaZ (l := [0, 6]) (hr := Rd.row Has.go)) (k := ?_); refine yv (zb5 (a := [0, 6]) (b := [0, 6]) (hr := rfl)) (k := ?_); refine zx ?_; refine zb ?_; refine zb ?_; refine yv (zaZ (l := [4, 193]) (hr := Rd.row Has.go)) (k := ?_); refine yv (zb5 (a := [4, 193]) (b := [4, 193]) (hr := rfl)) (k := ?_); refine zx ?_; refine zb ?_; refine yv (zi (f := 24) (hc := fun w' _ hk _ => hl1 w' hk)) (k := ?_); refine zW ?_; refine zx ?_; refine zb ?_; refine yv (zi (f := 24) (hc := fun w' _ hk _ => hl4 w' hk)) (k := ?_); refine zW ?_; refine zx ?_; refine zb ?_; refine zb ?_; refine yv (zi (hc := fun _ _ _ _ => (nm _ _))) (k := ?_); refine zW ?_; refine zx ?_; refine zb ?_; refine zb ?_; refine yv (zi (hc := fun _ _ _ _ => (nm _ _))) (k := ?_); refine zW ?_; refine zx ?_; refine zb ?_; refine zb ?_; refine yv (zi (hc := fun _ _ _ _ => (nm _ _))) (k := ?_); refine zW ?_; refine zx ?_; refine zb ?_; refine zb ?_; refine zA ?_; refine zW ?_; refine zx ?_) | fail)
  refine zcC (fun w' hh => (Row.cap hh (a := aS) (n := 4) (c := cS) Has.go : 4 ≤ cS)) fun hcS => ?_
  repeat' (first | refine zf ?_ | refine zp ?_ | refine ze ?_ | refine zj ?_ | (refine za (id := 9) ?_; refine zb ?_; (refine ys zJ (k := ?_); rintro _ _ ⟨_, rfl, rfl⟩); refine zbQ ?_; refine zb ?_; refine yv (zi (f := 13) (hc := fun w' X hk hh => hV1 w' _ _ _ _ _ hk (zaD (E := 5) (l := [4, 193]) hh rfl (by exact Has.append Has.go)) (zhL (E := 5) (l := [109]) hk hh rfl Has.go) (zaD (E := 5) (l := s) hh s2 (by exact Has.append Has.go)))) (k := ?_); refine yv (zi (hc := fun _ _ _ _ => (nm _ _))) (k := ?_); refine zai ?_; refine zb ?_; refine zb ?_; (refine ys zJ (k := ?_); rintro _ _ ⟨_, rfl, rfl⟩); refine zbQ ?_; refine zb ?_; refine yv (zaL (h := 3) (n' := 3) (c' := cS) (a' := aS)) (k := ?_); refine yv (zi (f := 13) (hc := fun w' X hk hh => hV2 w' _ _ _ _ _ hk (zaD (E := 5) (l := [4, 193]) hh rfl (by exact Has.append Has.go)) (zhL (E := 5) (l := [109]) hk hh rfl Has.go) (zl5 (E := 5) (l := s) (n := 4) hh s2 (by decide) (by exact Has.append Has.go)))) (k := ?_); refine yv (zi (hc := fun _ _ _ _ => (nm _ _))) (k := ?_); refine zai ?_; refine zx ?_; refine zd ?_) | fail)
  exact ret1 rfl (resTmp rfl) SubR.nil ⟨rfl, rfl⟩
end Go.Proofs.YtjidkoabdmjgkaaGreatDoor
end
