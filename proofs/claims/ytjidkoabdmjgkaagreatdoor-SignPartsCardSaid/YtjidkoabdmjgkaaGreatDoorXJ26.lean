/- Products modulo a number. -/
import Derived.Test.YtjidkoabdmjgkaaGreatDoorXJ23
import Derived.Test.YtjidkoabdmjgkaaGreatDoorXJ24
import Derived.Test.YtjidkoabdmjgkaaGreatDoorXJ25
import Derived.Test.YtjidkoabdmjgkaaGreatDoorXJ13
import Derived.Test.YtjidkoabdmjgkaaGreatDoorXJ17
import Derived.Test.YtjidkoabdmjgkaaGreatDoorXJ11
set_option linter.all false
section
namespace Go.Nt
open Go Go.Sy
theorem zkd {a b : Nat} (h : nd 2 a + nd 2 b ≤ 1024) : a * b < 18446744073709551616 ^ 16 := by
  refine znb h ?_
  have h1 := zaf 2 a (by decide)
  have h2 := zaf 2 b (by decide)
  rw [Nat.pow_add]
  exact Nat.mul_lt_mul'' h1 h2
theorem znd (l m : List UInt8) : bn (l ++ m) = bn l ++ bn m := by unfold bn; rw [List.map_append]
theorem zhA (l : List UInt8) : (bn l).length = l.length := by unfold bn; rw [List.length_map]
theorem zen (k : Nat) (l : List UInt8) : bev 256 (bn (List.replicate k 0 ++ l)) = bev 256 (bn l) := by
  induction k with
  | zero => rfl
  | succ k ih =>
    rw [← ih, List.replicate_succ, List.cons_append]
    show 0 * 256 ^ _ + bev 256 (bn (List.replicate k 0 ++ l)) = _
    omega
theorem zgl (z : Nat) : bev 256 (bn (1 :: List.replicate z 0)) = 256 ^ z := by
  show 1 * 256 ^ (bn (List.replicate z 0)).length + bev 256 (bn (List.replicate z 0)) = _
  have := zen z []
  rw [List.append_nil] at this
  rw [this, zhA, List.length_replicate, Nat.one_mul]; rfl
theorem zgj (D : List UInt8) (i z : Nat) (h : i + z ≤ D.length) : bev 256 (bn (D.take (i + z))) = bev 256 (bn (D.take i)) * 256 ^ z + bev 256 (bn ((D.take (i + z)).drop i)) := by
  have e : D.take (i + z) = D.take i ++ (D.take (i + z)).drop i := by
    conv => lhs; rw [← List.take_append_drop i (D.take (i + z))]
    rw [List.take_take, Nat.min_eq_left (by omega)]
  conv => lhs; rw [e]
  rw [znd, zdU, zhA]
  congr 3
  rw [List.length_drop, List.length_take, Nat.min_eq_left h]; omega
theorem zkW (D : List UInt8) (i z : Nat) (h : i + z ≤ D.length) : bev 256 (bn ((D.take (i + z)).drop i)) < 256 ^ z := by
  have h1 := zcx 256 (bn ((D.take (i + z)).drop i)) (zdK _)
  rw [zhA, List.length_drop, List.length_take, Nat.min_eq_left h, Nat.add_sub_cancel_left] at h1
  exact h1
theorem zjr (m a X R d : Nat) : (a * X % m * R % m + a * d % m) % m = a * (X * R + d) % m := by
  have h1 : Cg m (a * X % m * R % m + a * d % m) (a * X * R + a * d) := ((zb1 m _).trans ((zb1 m (a * X)).mul (Cg.refl m R))).add (zb1 m _)
  rw [h1.mod, Nat.mul_add, Nat.mul_assoc]
theorem zjT {m z : Nat} (h0 : 0 < m) (hz : z = (1024 - nd 2 m) / 8) : nd 2 m + 8 * z ≤ 1024 ∨ z = 0 := by omega
theorem pow256 (z : Nat) : 256 ^ z = 2 ^ (8 * z) := by rw [Nat.pow_mul]
theorem zeI {m z x y : Nat} (hz : nd 2 m + 8 * z ≤ 1024) (hx : x < m) (hy : y ≤ 256 ^ z) : x * y < 18446744073709551616 ^ 16 := by
  refine znb hz ?_
  have h1 := zaf 2 m (by decide)
  rw [Nat.pow_add, ← pow256]
  exact Nat.lt_of_lt_of_le (Nat.mul_lt_mul_of_pos_right (Nat.lt_trans hx h1) (Nat.pow_pos (by decide)) |> fun h => Nat.lt_of_le_of_lt (Nat.mul_le_mul_left x hy) h) (Nat.le_refl _)
theorem zm8 (z n : Nat) (h : 0 < z) : ∃ c, (z - n % z) % z + n = z * c := by
  have h1 := Nat.div_add_mod n z
  have h2 := Nat.mod_lt n h
  rcases Nat.eq_zero_or_pos (n % z) with h3 | h3
  · refine ⟨n / z, ?_⟩
    rw [h3, Nat.sub_zero, Nat.mod_self, Nat.zero_add]; omega
  · refine ⟨n / z + 1, ?_⟩
    rw [Nat.mod_eq_of_lt (by omega), Nat.mul_add]; omega
end Go.Nt
namespace Go.Proofs.YtjidkoabdmjgkaaGreatDoor
open Go Go.Sy Go.Nt Go.RowKit
section
variable {ro : Option Nat} {N : Nat} {w0 : World} {M : Nat → Prop} {ds : List Deferred} {g : Nat → Option Value} {L : List Res} {o : Oper}
theorem zaY (ho : o.op = .build 43 #[] := by exact rfl) : OpT Tryz.prog ro N w0 M ds o g L (Det (natV 0) L) := by
  rw [← natV0]
  exact zck ho (ty rfl) (.inl ⟨rfl, rfl⟩) (zc rfl)
end
attribute [local irreducible] Sy SyL SyX Sy.Fn callFunc natC rowN
set_option maxRecDepth 10000
theorem zgJ (m a b : Nat) (w : World) (hm : m < 18446744073709551616 ^ 16) (ha : a < m) (hb : b < m) (hs : nd 2 a + nd 2 b ≤ 1024) :
    Sy.Fn Tryz.prog 109 [natV m, natV a, natV b] w No (Gives (natV (a * b % m))) := by
  refine zq Tryz.func109 rfl Tryz.ntmps109 (by simp) Holds.nil ?_
  have hlm := zg m
  have hla := zg a
  have hlb := zg b
  have haW := Nat.lt_trans ha hm
  have hbW := Nat.lt_trans hb hm
  have h1 := fun w' => za0 a w' haW
  have h2 := fun w' => za0 b w' hbW
  have hna := zcn haW
  have hnb := zcn hbW
  have hP := zkd hs
  have hmul := fun w' => zhT a b w' haW hbW
  rw [if_pos hP] at hmul
  have hr := fun w' b' (h : w'.rangeAt b' 0 (rowN [a * b])) => zcr m (a * b) b' w' hm (by omega) hP h
  have hlP := zg (a * b)
  have hlr := zg (a * b % m)
  generalize a * b % m = r at *
  generalize a * b = p at *
  generalize nd 2 a = na at *
  generalize nd 2 b = nb at *
  have hadd : IntKind.i64.wrap ((na : Int) + (nb : Int)) = ((na + nb : Nat) : Int) := by rw [IntWalk.i64_in _ (by omega)]; omega
  have hle : decide (((na + nb : Nat) : Int) ≤ 1024) = true := decide_eq_true (by omega)
  repeat' (first | refine zh ?_ | refine zf ?_ | refine zw rfl ?_ | refine zp ?_ | refine ze ?_ | refine zj ?_ | refine zy ?_ | (refine za (id := 0) ?_; (refine zm ?_; intro _); (refine zm ?_; intro _); (refine zm ?_; intro _); (refine zm ?_; intro _)) | (refine zV (id := 1) 3 [[], [0], [], [0, 1, 2], [0, 1, 2, 3], [0, 1, 2, 3, 4]] mixed ?_ ?_; kernel_rfl; refine dc (fun _ _ => zl (B := natC a)) (k := ?_); refine dc (fun _ _ => zi (hc := fun _ _ _ _ => (h1 _))) (k := ?_); refine dc (fun _ _ => zl (B := natC b)) (k := ?_); refine z7 ?_; refine yv (zi (hc := fun _ _ _ _ => (h2 _))) (k := ?_); refine yv (zK (hr := hadd)) (k := ?_); refine yv (zbT (hr := hle)) (k := ?_)) | (refine za (id := 2) ?_; refine yv (zl (B := natC a)) (k := ?_); refine yv (zl (B := natC b)) (k := ?_); refine yv (zi (hc := fun _ _ _ _ => (hmul _))) (k := ?_); refine zb ?_; refine zk ?_; refine zk ?_; (refine zm ?_; intro _); refine yn (zn (n := p)) (k := ?_); refine zd ?_) | (refine za (id := 3) ?_; refine yv (zl (B := natC m)) (k := ?_); refine yv (zl (B := natC p)) (k := ?_)) | (refine ys (zao (x := p)) (k := ?_); rintro _ _ ⟨bb, rfl, rfl⟩) | (refine zT ?_; first | (refine ys (zF (f := 108) (hc := fun w' X hk hh => hr w' _ (zL (hh.has (by exact Has.append Has.here)) Seg.all))) (k := ?_); rintro _ _ ⟨R, rfl, bc, rfl, rfl⟩) | refine yv (zan (j := 0)) (k := ?_) | refine yv (zl (B := natC r)) (k := ?_) | refine yn (zn (n := r)) (k := ?_) | fail) | fail)
  exact ret1 rfl (resCells (B := natC r) rfl (ty rfl) rfl Has.go Seg.all (zg _).symm) SubR.nil ⟨rfl, rfl⟩
theorem zhP (m a b : Nat) (w : World) (hm : m < 18446744073709551616 ^ 16) (ha : a < m) (hb : b < m) (hs : ¬ nd 2 a + nd 2 b ≤ 1024) (hz : (1024 - nd 2 m) / 8 = 0) :
    Sy.Fn Tryz.prog 109 [natV m, natV a, natV b] w No (Gives (natV (a * b % m))) := by
  refine zq Tryz.func109 rfl Tryz.ntmps109 (by simp) Holds.nil ?_
  have hlm := zg m
  have hla := zg a
  have hlb := zg b
  have haW := Nat.lt_trans ha hm
  have hbW := Nat.lt_trans hb hm
  have h1 := fun w' => za0 a w' haW
  have h2 := fun w' => za0 b w' hbW
  have h3 := fun w' => za0 m w' hm
  have hna := zcn haW
  have hnb := zcn hbW
  have hnm := zcn hm
  have h0 : 0 < m := by omega
  obtain ⟨V, hV⟩ : ∃ V : Nat → Nat, ∀ k, V k = k * a % m := ⟨fun k => k * a % m, fun _ => rfl⟩
  have hD : ∀ k w', Sy.Fn Tryz.prog 135 ([natV m] ++ [natV (V k)] ++ []) w' No (Gives (natV (V (2 * k)))) := fun k w' => by
    have := zjn m (V k) w' hm (by rw [hV]; exact Nat.mod_lt _ h0)
    rw [show (V k + V k) % m = V (2 * k) by rw [hV, hV, ← Nat.add_mod, ← Nat.add_mul, Nat.two_mul]] at this
    exact this
  have hA : ∀ k w', Sy.Fn Tryz.prog 110 ([natV m] ++ [natV (V k), natV a] ++ []) w' No (Gives (natV (V (k + 1)))) := fun k w' => by
    have := zfr m (V k) a w' hm (by rw [hV]; exact Nat.mod_lt _ h0) ha
    rw [show (V k + a) % m = V (k + 1) by rw [hV, hV, Nat.mod_add_mod, Nat.add_mul, Nat.one_mul]] at this
    exact this
  have hlad := fun w' => zgi b a V 135 110 [natV m] [] [natV m] [] w' hbW (en rfl) (en rfl) hD hA
  rw [show V 0 = 0 by rw [hV, Nat.zero_mul, Nat.zero_mod], show V b = a * b % m by rw [hV, Nat.mul_comm]] at hlad
  have hlr := zg (a * b % m)
  have hl0 := zg 0
  clear hD hA hV
  generalize a * b % m = r at *
  generalize nd 2 a = na at *
  generalize nd 2 b = nb at *
  generalize nd 2 m = nm at *
  have hadd : IntKind.i64.wrap ((na : Int) + (nb : Int)) = ((na + nb : Nat) : Int) := by rw [IntWalk.i64_in _ (by omega)]; omega
  have hle : decide (((na + nb : Nat) : Int) ≤ 1024) = false := decide_eq_false (by omega)
  have hsub : IntKind.i64.wrap (1024 - (nm : Int)) = ((1024 - nm : Nat) : Int) := by rw [IntWalk.i64_in _ (by omega)]; omega
  have hquo : IntKind.i64.wrap ((((1024 - nm : Nat)) : Int).tdiv 8) = ((0 : Nat) : Int) := by
    have := quoI (p := 1024 - nm) (k := 8) (by omega)
    rw [hz] at this
    exact this
  repeat' (first | refine zh ?_ | refine zf ?_ | refine zw rfl ?_ | refine zt rfl ?_ | refine zr ?_ | refine zp ?_ | refine ze ?_ | refine zj ?_ | refine zy ?_ | (refine za (id := 0) ?_; (refine zm ?_; intro _); (refine zm ?_; intro _); (refine zm ?_; intro _); (refine zm ?_; intro _)) | (refine zV (id := 1) 3 [[], [0], [], [0, 1, 2], [0, 1, 2, 3], [0, 1, 2, 3, 4]] mixed ?_ ?_; kernel_rfl; refine dc (fun _ _ => zl (B := natC a)) (k := ?_); refine dc (fun _ _ => zi (hc := fun _ _ _ _ => (h1 _))) (k := ?_); refine dc (fun _ _ => zl (B := natC b)) (k := ?_); refine z7 ?_; refine yv (zi (hc := fun _ _ _ _ => (h2 _))) (k := ?_); refine yv (zK (hr := hadd)) (k := ?_); refine yv (zbT (hr := hle)) (k := ?_)) | (refine za (id := 4) ?_; refine zD ?_; refine yv (zl (B := natC m)) (k := ?_); refine yv (zi (hc := fun _ _ _ _ => (h3 _))) (k := ?_); refine yv (zM (hr := hsub)) (k := ?_); refine yv (zaN (hr := hquo)) (k := ?_); refine zd ?_) | (refine za (id := 5) ?_; refine zb ?_; refine zai ?_) | (refine za (id := 6) ?_; refine yv (zl (B := natC b)) (k := ?_); refine yv zaY (k := ?_); refine yv (zl (B := natC a)) (k := ?_); refine yv (zl (B := natC m)) (k := ?_); refine zag ?_; refine yv (zl (B := natC m)) (k := ?_); refine zag ?_; refine yv (zi (hc := fun _ _ _ _ => (hlad _))) (k := ?_); refine yn (zn (n := r)) (k := ?_)) | fail)
  exact ret1 rfl (resCells (B := natC r) rfl (ty rfl) rfl Has.go Seg.all (zg _).symm) SubR.nil ⟨rfl, rfl⟩
set_option maxHeartbeats 1000000 in
theorem zgS (m a b : Nat) (w : World) (hm : m < 18446744073709551616 ^ 16) (ha : a < m) (hb : b < m) (hs : ¬ nd 2 a + nd 2 b ≤ 1024) (hz : (1024 - nd 2 m) / 8 ≠ 0) :
    Sy.Fn Tryz.prog 109 [natV m, natV a, natV b] w No (Gives (natV (a * b % m))) := by
  refine zq Tryz.func109 rfl Tryz.ntmps109 (by simp) Holds.nil ?_
  have hlm := zg m
  have hla := zg a
  have hlb := zg b
  have haW := Nat.lt_trans ha hm
  have hbW := Nat.lt_trans hb hm
  have h1 := fun w' => za0 a w' haW
  have h2 := fun w' => za0 b w' hbW
  have h3 := fun w' => za0 m w' hm
  have hna := zcn haW
  have hnb := zcn hbW
  have hnm := zcn hm
  have h0 : 0 < m := by omega
  obtain ⟨z, hzz⟩ : ∃ z, z = (1024 - nd 2 m) / 8 := ⟨_, rfl⟩
  rw [← hzz] at hz
  have hz0 : 0 < z := by omega
  have hz8 : nd 2 m + 8 * z ≤ 1024 := (zjT h0 hzz).resolve_right hz
  have hz128 : z ≤ 128 := by omega
  have hRW : 256 ^ z < 18446744073709551616 ^ 16 := by
    have := zeI (x := 1) (y := 256 ^ z) hz8 (by
      rcases Nat.lt_or_ge 1 m with h | h
      · exact h
      · exfalso
        have e1 : a = 0 := by omega
        have e2 : b = 0 := by omega
        subst e1; subst e2
        rw [zbH] at hs
        omega) (Nat.le_refl _)
    rwa [Nat.one_mul] at this
  have hrad := fun w' aR cR (h : SlA w' aR ((1 :: List.replicate z 0 : List UInt8).map v8)) (hc : z + 1 ≤ cR) => za1 aR (z + 1) cR (1 :: List.replicate z 0) w' (by simp) hc h (by omega)
  rw [zgl, if_pos hRW] at hrad
  have hquo : IntKind.i64.wrap ((((1024 - nd 2 m : Nat)) : Int).tdiv 8) = ((z : Nat) : Int) := by
    rw [hzz]; exact quoI (p := 1024 - nd 2 m) (k := 8) (by omega)
  generalize hna' : nd 2 a = na at *
  generalize hnb' : nd 2 b = nb at *
  have hadd : IntKind.i64.wrap ((na : Int) + (nb : Int)) = ((na + nb : Nat) : Int) := by rw [IntWalk.i64_in _ (by omega)]; omega
  have hle : decide (((na + nb : Nat) : Int) ≤ 1024) = false := decide_eq_false (by omega)
  have hsub : IntKind.i64.wrap (1024 - ((nd 2 m : Nat) : Int)) = ((1024 - nd 2 m : Nat) : Int) := by rw [IntWalk.i64_in _ (by omega)]; omega
  have hne : decide ((z : Int) = 0) = false := decide_eq_false (by omega)
  have hys : [Value.int IntKind.u8 1] ++ List.replicate z (Value.int IntKind.u8 0) = (1 :: List.replicate z 0 : List UInt8).map v8 := by
    rw [List.map_cons, List.map_replicate]; rfl
  have hlR := zg (256 ^ z)
  repeat' (first | refine zh ?_ | refine zf ?_ | refine zt rfl ?_ | refine zr ?_ | refine ze ?_ | refine zj ?_ | (refine za (id := 0) ?_; (refine zm ?_; intro _); (refine zm ?_; intro _); (refine zm ?_; intro _); (refine zm ?_; intro _)) | (refine zV (id := 1) 3 [[], [0], [], [0, 1, 2], [0, 1, 2, 3], [0, 1, 2, 3, 4]] mixed ?_ ?_; kernel_rfl; refine dc (fun _ _ => zl (B := natC a)) (k := ?_); refine dc (fun _ _ => zi (hc := fun _ _ _ _ => (h1 _))) (k := ?_); refine dc (fun _ _ => zl (B := natC b)) (k := ?_); refine z7 ?_; refine yv (zi (hc := fun _ _ _ _ => (h2 _))) (k := ?_); refine yv (zK (hr := hadd)) (k := ?_); refine yv (zbT (hr := hle)) (k := ?_)) | (refine za (id := 4) ?_; refine zD ?_; refine yv (zl (B := natC m)) (k := ?_); refine yv (zi (hc := fun _ _ _ _ => (h3 _))) (k := ?_); refine yv (zM (hr := hsub)) (k := ?_); refine yv (zaN (hr := hquo)) (k := ?_); refine zd ?_) | (refine za (id := 5) ?_; refine zb ?_; refine yv (z3 (hr := hne)) (k := ?_)) | (refine za (id := 7) ?_; (refine ys zJ (k := ?_); rintro _ _ ⟨_, rfl, rfl⟩); refine zb ?_; (refine ys (OpT.conv (zcd (n := 1) (s := 1) (by repeat (first | exact Rem.here | apply Rem.there)) rfl (by unfold maxLen; omega)) (zfF (k := 1) (m := z) (km := z + 1) (hm := rfl) (hL := Rem.here) (hkm := (by omega : 1 + z = z + 1)) (hys := hys))) (k := ?_); rintro _ _ ⟨rfl, aR, cR, rfl⟩); refine yv (zi (f := 68) (hc := fun w' _ _ hh => hrad w' _ _ (z9 hh (by exact Has.append Has.go)) (Row.cap (n := z + 1) hh (by exact Has.append Has.go)))) (k := ?_); refine zb ?_; refine zk ?_; refine zk ?_; (refine zm ?_; intro _); refine yn (zn (n := 256 ^ z)) (k := ?_); refine zd ?_) | fail)
  rename_i b3 b4 b5 b6 wx b10
  clear hrad h1 h2 h3 hadd hle hsub hquo hys
  refine Sy.weaken (fr' := [(3, .pointer (some ⟨b3, 0, none⟩)), (4, .pointer (some ⟨b4, 0, none⟩)), (5, .pointer (some ⟨b5, 0, none⟩)), (6, .pointer (some ⟨b6, 0, none⟩)), (9, .int .i64 z), (10, .pointer (some ⟨b10, 0, none⟩))])
    (L' := [.blk b3 107 (natC m), .blk b4 43 (natC a), .blk b5 43 (natC b), .blk b6 43 (List.replicate 16 (Value.int IntKind.u64 0)), .blk b10 43 (natC (256 ^ z))]) ?_ (by exact Sub.go) (by exact SubR.go2)
  have hby := fun w' => zd3 b w' hbW
  have hnd := zam 256 b 128 (by decide) (by rw [← zdt 256 8 128 (by decide) (by decide)]; exact hbW)
  have hbl := zcL b
  have hbev := zim b
  generalize byt b = D0 at *
  generalize nd 256 b = n0 at *
  obtain ⟨c, hc⟩ := zm8 z n0 hz0
  obtain ⟨k0, hk0⟩ : ∃ k0, k0 = (z - n0 % z) % z := ⟨_, rfl⟩
  rw [← hk0] at hc
  have hk0z : k0 < z := by rw [hk0]; exact Nat.mod_lt _ hz0
  have q1 : (n0 : Int).tmod (z : Int) = ((n0 % z : Nat) : Int) := remI n0 z
  have hml := Nat.mod_lt n0 hz0
  have q2 : IntKind.i64.wrap ((z : Int) - ((n0 % z : Nat) : Int)) = ((z - n0 % z : Nat) : Int) := by rw [IntWalk.i64_in _ (by omega)]; omega
  have q3 : ((z - n0 % z : Nat) : Int).tmod (z : Int) = ((k0 : Nat) : Int) := by rw [hk0]; exact remI _ z
  obtain ⟨D, hD⟩ : ∃ D, D = List.replicate k0 0 ++ D0 := ⟨_, rfl⟩
  have hDl : D.length = z * c := by rw [hD, List.length_append, List.length_replicate, hbl, hc]
  have hDb : bev 256 (bn D) = b := by rw [hD, zen, hbev]
  have hys : List.replicate k0 (Value.int IntKind.u8 0) ++ D0.map v8 = D.map v8 := by
    rw [hD, List.map_append, List.map_replicate]; rfl
  have hzc : z * c < 300 := by omega
  have hlen : k0 + n0 = z * c := hc
  generalize n0 % z = n1 at *
  generalize z - n1 = n2 at *
  repeat' (first | refine zh ?_ | refine zf ?_ | refine zu ?_ | refine ze ?_ | refine zj ?_ | (refine za (id := 8) ?_; refine yv (zl (B := natC b)) (k := ?_); (refine ys (zF (f := 17) (hc := fun w' X hk hh => hby w')) (k := ?_); rintro _ _ ⟨R, rfl, bB, rfl, rfl⟩); refine zd ?_) | (refine za (id := 9) ?_; refine zb ?_; refine zb ?_; refine zA ?_; refine zb ?_; refine yv (za2 (hr := q1)) (k := ?_); refine yv (zM (hr := q2)) (k := ?_); refine zb ?_; refine yv (za2 (hr := q3)) (k := ?_)) | (refine za (id := 10) ?_; (refine zm ?_; intro _)) | (refine za (id := 11) ?_; refine zd ?_) | (refine ys (zcK (n := k0)) (k := ?_); rintro _ _ ⟨bz, rfl, rfl⟩) | (refine zT ?_; first | (refine ys (zdX (k := k0) (m := n0) (hxn := by rw [List.length_replicate, Nat.mul_one]) (hr := Rd.of (Reads.blk (C := D0.map v8) (T := 5) Has.go Seg.all)) (hn := by rw [List.length_map, hbl, Nat.mul_one]) (hkm := hlen) (hys := hys)) (k := ?_); rintro _ _ ⟨rfl, aD, cD, rfl⟩) | refine zd ?_ | refine zb ?_ | fail) | fail)
  rename_i b13
  have hl0 := zg 0
  rw [natC0]
  refine zQ (γ := Nat) (fun j => [(3, .pointer (some ⟨b3, 0, none⟩)), (4, .pointer (some ⟨b4, 0, none⟩)), (6, .pointer (some ⟨b6, 0, none⟩)), (9, .int .i64 z), (10, .pointer (some ⟨b10, 0, none⟩)), (12, .slice aD (z * c) cD), (13, .pointer (some ⟨b13, 0, none⟩)), (14, .int .i64 ((z * j : Nat) : Int))])
    (fun j => [.blk b13 43 (natC (a * bev 256 (bn (D.take (z * j))) % m)), .row (.slice aD (z * c) cD) 5 1 (z * c) (D.map v8), .blk b3 107 (natC m), .blk b4 43 (natC a), .blk b10 43 (natC (256 ^ z)), .blk b6 43 (natC 0)])
    (fun j => j ≤ c) (fun j => c - j) 0 (Nat.zero_le _) ?_ ?_ ?_
  · exact Sub.go
  · show SubR [.blk b13 43 (natC (a * bev 256 (bn (D.take 0)) % m)), .row (.slice aD (z * c) cD) 5 1 (z * c) (D.map v8), .blk b3 107 (natC m), .blk b4 43 (natC a), .blk b10 43 (natC (256 ^ z)), .blk b6 43 (natC 0)] _
    rw [List.take_zero, show bev 256 (bn []) = 0 from rfl, Nat.mul_zero, Nat.zero_mod]
    exact SubR.go2
  clear hby hys hbl hbev
  intro j hj
  refine zcC (fun w' hh => (Row.cap (a := aD) (n := z * c) (c := cD) hh Has.go : z * c ≤ cD)) fun hcD => ?_
  rcases Nat.lt_or_ge j c with h | h
  · have hzj : z * j + z ≤ z * c := by rw [← Nat.mul_succ]; exact Nat.mul_le_mul_left z h
    have hlt : decide (((z * j : Nat) : Int) < ((z * c : Nat) : Int)) = true := decide_eq_true (by omega)
    have hadd : IntKind.i64.wrap (((z * j : Nat) : Int) + (z : Int)) = ((z * j + z : Nat) : Int) := by rw [IntWalk.i64_in _ (by omega)]; omega
    have hch := zgj D (z * j) z (by omega)
    have hcl := zkW D (z * j) z (by omega)
    have hps := zjr m a (bev 256 (bn (D.take (z * j)))) (256 ^ z) (bev 256 (bn ((D.take (z * j + z)).drop (z * j))))
    rw [← hch] at hps
    have hcW : bev 256 (bn ((D.take (z * j + z)).drop (z * j))) < 18446744073709551616 ^ 16 := Nat.lt_trans hcl hRW
    have hfb := fun w' (hs : SlA w' aD (D.map v8)) (hcap : z * c ≤ cD) => za1 (movA aD (z * j) (z * j + z) 1) z z ((D.take (z * j + z)).drop (z * j)) w' (by rw [List.length_drop, List.length_take]; omega) (Nat.le_refl _) (by
      rw [List.map_drop, List.map_take]
      exact (hs.take _).mov (by rw [List.length_take]; omega)) (by omega)
    rw [if_pos hcW] at hfb
    have hrm := Nat.mod_lt (a * bev 256 (bn (D.take (z * j)))) h0
    have hf1 := zeI hz8 hrm (Nat.le_refl _)
    have hf2 := zeI hz8 ha (Nat.le_of_lt hcl)
    have hM1 := fun w' => zhT (a * bev 256 (bn (D.take (z * j))) % m) (256 ^ z) w' (Nat.lt_trans hrm hm) hRW
    have hM2 := fun w' => zhT a (bev 256 (bn ((D.take (z * j + z)).drop (z * j)))) w' haW hcW
    rw [if_pos hf1] at hM1
    rw [if_pos hf2] at hM2
    have hcur : a * bev 256 (bn (D.take (z * (j + 1)))) % m = a * bev 256 (bn (D.take (z * j + z))) % m := by rw [Nat.mul_succ]
    have hzj1 : ((z * (j + 1) : Nat) : Int) = ((z * j + z : Nat) : Int) := by rw [Nat.mul_succ]
    rw [← hps] at hcur
    generalize bev 256 (bn ((D.take (z * j + z)).drop (z * j))) = d at *
    generalize a * bev 256 (bn (D.take (z * j))) % m = R0 at *
    have hres := fun w' b' (hs : w'.rangeAt b' 0 (rowN [R0 * 256 ^ z, a * d])) => zeF m (R0 * 256 ^ z) (a * d) b' w' hm h0 hf1 hf2 hs
    have hsum := fun w' => zfr m (R0 * 256 ^ z % m) (a * d % m) w' hm (Nat.mod_lt _ h0) (Nat.mod_lt _ h0)
    rw [← hcur] at hsum
    have hl1 := zg R0
    have hl2 := zg d
    have hl3 := zg (R0 * 256 ^ z)
    have hl4 := zg (a * d)
    have hl5 := zg (R0 * 256 ^ z % m)
    have hl6 := zg (a * d % m)
    have hl7 := zg (a * bev 256 (bn (D.take (z * (j + 1)))) % m)
    generalize hnew : a * bev 256 (bn (D.take (z * (j + 1)))) % m = R1 at *
    clear hcur hf1 hf2 hcW hps hch hcl hrm hDb
    generalize R0 * 256 ^ z % m = r1 at *
    generalize a * d % m = r2 at *
    generalize R0 * 256 ^ z = p1 at *
    generalize a * d = p2 at *
    generalize 256 ^ z = rad at *
    repeat' (first | refine zh ?_ | refine zf ?_ | refine zw rfl ?_ | refine zu ?_ | refine zr ?_ | refine ze ?_ | refine zj ?_ | (refine za (id := 12) ?_; refine zb ?_; refine zb ?_; refine zA ?_; refine yv (zS (hr := hlt)) (k := ?_)) | (refine za (id := 14) ?_; refine zb ?_; refine zb ?_; refine zb ?_; refine zb ?_; refine yv (zK (hr := hadd)) (k := ?_); refine zb ?_; refine zb ?_; refine yv (zK (hr := hadd)) (k := ?_); refine yv (zaL (l := z * j) (h := z * j + z) (m := z * j + z) (n' := z) (c' := z) (hn' := by omega) (hc' := by omega)) (k := ?_); refine yv (zi (f := 68) (hc := fun w' _ _ hh => hfb w' (z9 hh (by exact Has.append Has.go)) (Row.cap (n := z * c) hh (by exact Has.append Has.go)))) (k := ?_); refine zb ?_; refine zk ?_; refine zk ?_; (refine zm ?_; intro _); refine yn (zn (n := d)) (k := ?_); refine zd ?_) | fail)
    repeat' (first | refine zh ?_ | refine zf ?_ | refine ze ?_ | refine zj ?_ | (refine za (id := 15) ?_; refine yv (zl (B := natC R0)) (k := ?_); refine yv (zl (B := natC rad)) (k := ?_); refine yv (zi (hc := fun _ _ _ _ => (hM1 _))) (k := ?_); refine zb ?_; refine zk ?_; refine zk ?_; (refine zm ?_; intro _); refine yn (zn (n := p1)) (k := ?_); refine zd ?_) | (refine za (id := 16) ?_; refine yv (zl (B := natC a)) (k := ?_); refine yv (zl (B := natC d)) (k := ?_); refine yv (zi (hc := fun _ _ _ _ => (hM2 _))) (k := ?_); refine zb ?_; refine zk ?_; refine zk ?_; (refine zm ?_; intro _); refine yn (zn (n := p2)) (k := ?_); refine zd ?_) | (refine za (id := 17) ?_; refine yv (zl (B := natC m)) (k := ?_); refine yv (zl (B := natC p1)) (k := ?_); refine yv (zl (B := natC p2)) (k := ?_)) | (refine zV (id := 18) 7 [[], [], [1], [1, 2], [], [4], [4, 5], [0, 1, 2, 3, 4, 5, 6], [0, 1, 2, 3, 4, 5, 6, 7]] mixed ?_ ?_; kernel_rfl; refine dc (fun _ _ => zl (B := natC m)) (k := ?_); refine zB ?_; refine dc (fun _ _ => zan (j := 0)) (k := ?_); refine dc (fun _ _ => zl (B := natC r1) (hv := (seg2 r1 r2).1)) (k := ?_); refine zB ?_; refine dc (fun _ _ => zan (j := 1)) (k := ?_); refine dc (fun _ _ => zl (B := natC r2) (hv := (seg2 r1 r2).2)) (k := ?_); refine z7 ?_; refine yv (zi (hc := fun _ _ _ _ => (hsum _))) (k := ?_); refine yn (zn (n := R1)) (k := ?_)) | (refine za (id := 13) ?_; refine zb ?_; refine zb ?_; refine yv (zK (hr := hadd)) (k := ?_); refine zd ?_) | (refine ys (zbZ (x := p1) (x' := p2)) (k := ?_); rintro _ _ ⟨bb, rfl, rfl⟩) | (refine zT ?_; first | (refine ys (zF (f := 108) (hc := fun w' X hk hh => hres w' _ (zL (hh.has (by exact Has.append Has.here)) Seg.all))) (k := ?_); rintro _ _ ⟨R, rfl, bc, rfl, rfl⟩) | refine zd ?_ | fail) | fail)
    refine zI (j + 1) ?_ ?_ ?_ ?_
    · show j + 1 ≤ c; omega
    · show c - (j + 1) < c - j; omega
    · rw [hzj1]
      exact Sub.go
    · show SubR [.blk b13 43 (natC (a * bev 256 (bn (D.take (z * (j + 1)))) % m)), .row (.slice aD (z * c) cD) 5 1 (z * c) (D.map v8), .blk b3 107 (natC m), .blk b4 43 (natC a), .blk b10 43 (natC rad), .blk b6 43 (natC 0)] _
      rw [hnew]
      exact SubR.go2
  · obtain rfl : j = c := by omega
    have hlt : decide (((z * j : Nat) : Int) < ((z * j : Nat) : Int)) = false := decide_eq_false (by omega)
    rw [List.take_of_length_le (by omega), hDb]
    have hlr := zg (a * b % m)
    generalize a * b % m = r at *
    repeat' (first | refine zh ?_ | refine zf ?_ | refine zt rfl ?_ | refine zp ?_ | refine zE ?_ | refine ze ?_ | refine zj ?_ | (refine za (id := 12) ?_; refine zb ?_; refine zb ?_; refine zA ?_; refine yv (zS (hr := hlt)) (k := ?_)) | (refine za (id := 19) ?_; refine yv (zl (B := natC r)) (k := ?_); refine yn (zn (n := r)) (k := ?_)) | fail)
    exact ret1 rfl (resCells (B := natC r) rfl (ty rfl) rfl Has.go Seg.all (zg _).symm) SubR.nil ⟨rfl, rfl⟩
theorem zdL (m a b : Nat) (w : World) (hm : m < 18446744073709551616 ^ 16) (ha : a < m) (hb : b < m) :
    Sy.Fn Tryz.prog 109 [natV m, natV a, natV b] w No (Gives (natV (a * b % m))) := by
  by_cases h1 : nd 2 a + nd 2 b ≤ 1024
  · exact zgJ m a b w hm ha hb h1
  · by_cases h2 : (1024 - nd 2 m) / 8 = 0
    · exact zhP m a b w hm ha hb h1 h2
    · exact zgS m a b w hm ha hb h1 h2
theorem zke (m a : Nat) (w : World) (hm : m < 18446744073709551616 ^ 16) (ha : a < m) :
    Sy.Fn Tryz.prog 141 [natV m, natV a] w No (Gives (natV (a * a % m))) := by
  refine zq Tryz.func141 rfl Tryz.ntmps141 (by simp) Holds.nil ?_
  have hlm := zg m
  have hla := zg a
  have hs := fun w' => zdL m a a w' hm ha ha
  have hls := zg (a * a % m)
  generalize a * a % m = s at *
  repeat' (first | refine zh ?_ | refine zf ?_ | refine zp ?_ | refine ze ?_ | refine zj ?_ | (refine za (id := 0) ?_; (refine zm ?_; intro _); (refine zm ?_; intro _); (refine zm ?_; intro _)) | (refine za (id := 1) ?_; refine yv (zl (B := natC m)) (k := ?_); refine yv (zl (B := natC a)) (k := ?_); refine yv (zl (B := natC a)) (k := ?_); refine yv (zi (hc := fun _ _ _ _ => (hs _))) (k := ?_); refine yn (zn (n := s)) (k := ?_)) | fail)
  exact ret1 rfl (resCells (B := natC s) rfl (ty rfl) rfl Has.go Seg.all (zg _).symm) SubR.nil ⟨rfl, rfl⟩
end Go.Proofs.YtjidkoabdmjgkaaGreatDoor
end
