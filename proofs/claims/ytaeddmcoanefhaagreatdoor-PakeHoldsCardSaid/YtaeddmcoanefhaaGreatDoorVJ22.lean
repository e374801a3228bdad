/- Products modulo a number. -/
import Derived.Test.YtaeddmcoanefhaaGreatDoorVJ21
import Derived.Test.YtaeddmcoanefhaaGreatDoorVJ12
import Derived.Test.YtaeddmcoanefhaaGreatDoorVJ16
import Derived.Test.YtaeddmcoanefhaaGreatDoorVJ10
set_option linter.all false
section
namespace Go.Nt
open Go Go.Sy
theorem prod_fits {a b : Nat} (h : nd 2 a + nd 2 b ≤ 1024) : a * b < 18446744073709551616 ^ 16 := by
  refine w_ge h ?_
  have h1 := nd_lt 2 a (by decide)
  have h2 := nd_lt 2 b (by decide)
  rw [Nat.pow_add]
  exact Nat.mul_lt_mul'' h1 h2
theorem bn_app (l m : List UInt8) : bn (l ++ m) = bn l ++ bn m := by unfold bn; rw [List.map_append]
theorem bn_len (l : List UInt8) : (bn l).length = l.length := by unfold bn; rw [List.length_map]
theorem bev_zeros (k : Nat) (l : List UInt8) : bev 256 (bn (List.replicate k 0 ++ l)) = bev 256 (bn l) := by
  induction k with
  | zero => rfl
  | succ k ih =>
    rw [← ih, List.replicate_succ, List.cons_append]
    show 0 * 256 ^ _ + bev 256 (bn (List.replicate k 0 ++ l)) = _
    omega
theorem bev_radix (z : Nat) : bev 256 (bn (1 :: List.replicate z 0)) = 256 ^ z := by
  show 1 * 256 ^ (bn (List.replicate z 0)).length + bev 256 (bn (List.replicate z 0)) = _
  have := bev_zeros z []
  rw [List.append_nil] at this
  rw [this, bn_len, List.length_replicate, Nat.one_mul]; rfl
theorem bev_chunk (D : List UInt8) (i z : Nat) (h : i + z ≤ D.length) : bev 256 (bn (D.take (i + z))) = bev 256 (bn (D.take i)) * 256 ^ z + bev 256 (bn ((D.take (i + z)).drop i)) := by
  have e : D.take (i + z) = D.take i ++ (D.take (i + z)).drop i := by
    conv => lhs; rw [← List.take_append_drop i (D.take (i + z))]
    rw [List.take_take, Nat.min_eq_left (by omega)]
  conv => lhs; rw [e]
  rw [bn_app, bev_append, bn_len]
  congr 3
  rw [List.length_drop, List.length_take, Nat.min_eq_left h]; omega
theorem chunk_lt (D : List UInt8) (i z : Nat) (h : i + z ≤ D.length) : bev 256 (bn ((D.take (i + z)).drop i)) < 256 ^ z := by
  have h1 := bev_lt 256 (bn ((D.take (i + z)).drop i)) (bn_lt _)
  rw [bn_len, List.length_drop, List.length_take, Nat.min_eq_left h, Nat.add_sub_cancel_left] at h1
  exact h1
theorem part_step (m a X R d : Nat) : (a * X % m * R % m + a * d % m) % m = a * (X * R + d) % m := by
  have h1 : Cg m (a * X % m * R % m + a * d % m) (a * X * R + a * d) := ((cg_mod m _).trans ((cg_mod m (a * X)).mul (Cg.refl m R))).add (cg_mod m _)
  rw [h1.mod, Nat.mul_add, Nat.mul_assoc]
theorem part_size {m z : Nat} (h0 : 0 < m) (hz : z = (1024 - nd 2 m) / 8) : nd 2 m + 8 * z ≤ 1024 ∨ z = 0 := by omega
theorem pow256 (z : Nat) : 256 ^ z = 2 ^ (8 * z) := by rw [Nat.pow_mul]
theorem part_fits {m z x y : Nat} (hz : nd 2 m + 8 * z ≤ 1024) (hx : x < m) (hy : y ≤ 256 ^ z) : x * y < 18446744073709551616 ^ 16 := by
  refine w_ge hz ?_
  have h1 := nd_lt 2 m (by decide)
  rw [Nat.pow_add, ← pow256]
  exact Nat.lt_of_lt_of_le (Nat.mul_lt_mul_of_pos_right (Nat.lt_trans hx h1) (Nat.pow_pos (by decide)) |> fun h => Nat.lt_of_le_of_lt (Nat.mul_le_mul_left x hy) h) (Nat.le_refl _)
theorem pad_of (z n : Nat) (h : 0 < z) : ∃ c, (z - n % z) % z + n = z * c := by
  have h1 := Nat.div_add_mod n z
  have h2 := Nat.mod_lt n h
  rcases Nat.eq_zero_or_pos (n % z) with h3 | h3
  · refine ⟨n / z, ?_⟩
    rw [h3, Nat.sub_zero, Nat.mod_self, Nat.zero_add]; omega
  · refine ⟨n / z + 1, ?_⟩
    rw [Nat.mod_eq_of_lt (by omega), Nat.mul_add]; omega
end Go.Nt
namespace Go.Proofs.YtaeddmcoanefhaaGreatDoor
open Go Go.Sy Go.Nt Go.RowKit
section
variable {ro : Option Nat} {N : Nat} {w0 : World} {M : Nat → Prop} {ds : List Deferred} {g : Nat → Option Value} {L : List Res} {o : Oper}
theorem op_zeroN (ho : o.op = .build 44 #[] := by exact rfl) : OpT Tryz.prog ro N w0 M ds o g L (Det (natV 0) L) := by
  rw [← natV0]
  exact op_build0 ho (ty rfl) (.inl ⟨rfl, rfl⟩) (zc rfl)
end
attribute [local irreducible] Sy SyL SyX Sy.Fn callFunc natC rowN
set_option maxRecDepth 10000
theorem product_small (m a b : Nat) (w : World) (hm : m < 18446744073709551616 ^ 16) (ha : a < m) (hb : b < m) (hs : nd 2 a + nd 2 b ≤ 1024) :
    Sy.Fn Tryz.prog 99 [natV m, natV a, natV b] w No (Gives (natV (a * b % m))) := by
  refine fn_enter Tryz.func99 rfl Tryz.ntmps99 (by simp) Holds.nil ?_
  have hlm := natC_len m
  have hla := natC_len a
  have hlb := natC_len b
  have haW := Nat.lt_trans ha hm
  have hbW := Nat.lt_trans hb hm
  have h1 := fun w' => bitLen_fn a w' haW
  have h2 := fun w' => bitLen_fn b w' hbW
  have hna := nd2_W haW
  have hnb := nd2_W hbW
  have hP := prod_fits hs
  have hmul := fun w' => mul_fn a b w' haW hbW
  rw [if_pos hP] at hmul
  have hr := fun w' b' (h : w'.rangeAt b' 0 (rowN [a * b])) => residues1_fn m (a * b) b' w' hm (by omega) hP h
  have hlP := natC_len (a * b)
  have hlr := natC_len (a * b % m)
  generalize a * b % m = r at *
  generalize a * b = p at *
  generalize nd 2 a = na at *
  generalize nd 2 b = nb at *
  have hadd : IntKind.i64.wrap ((na : Int) + (nb : Int)) = ((na + nb : Nat) : Int) := by rw [IntWalk.i64_in _ (by omega)]; omega
  have hle : decide (((na + nb : Nat) : Int) ≤ 1024) = true := decide_eq_true (by omega)
  repeat' (first | refine sy_seqC ?_ | refine syl_nil ?_ | refine sy_if_t rfl ?_ | refine sy_ret ?_ | refine syx_then ?_ | refine syx_go ?_ | refine syx_then_ret ?_ | (refine sy_region (id := 0) ?_; (refine y_new ?_; intro _); (refine y_new ?_; intro _); (refine y_new ?_; intro _); (refine y_new ?_; intro _)) | (refine sy_draw (id := 1) 3 [[], [0], [], [0, 1, 2], [0, 1, 2, 3], [0, 1, 2, 3, 4]] mixed ?_ ?_; kernel_rfl; refine dc (fun _ _ => op_loads (B := natC a)) (k := ?_); refine dc (fun _ _ => op_callV (hc := fun _ _ _ _ => (h1 _))) (k := ?_); refine dc (fun _ _ => op_loads (B := natC b)) (k := ?_); refine dh_0n ?_; refine yv (op_callV (hc := fun _ _ _ _ => (h2 _))) (k := ?_); refine yv (op_add (hr := hadd)) (k := ?_); refine yv (op_leq (hr := hle)) (k := ?_)) | (refine sy_region (id := 2) ?_; refine yv (op_loads (B := natC a)) (k := ?_); refine yv (op_loads (B := natC b)) (k := ?_); refine yv (op_callV (hc := fun _ _ _ _ => (hmul _))) (k := ?_); refine y_move ?_; refine y_extract ?_; refine y_extract ?_; (refine y_new ?_; intro _); refine yn (op_storeNat (n := p)) (k := ?_); refine y_assign ?_) | (refine sy_region (id := 3) ?_; refine yv (op_loads (B := natC m)) (k := ?_); refine yv (op_loads (B := natC p)) (k := ?_)) | (refine ys (op_buildN1 (x := p)) (k := ?_); rintro _ _ ⟨bb, rfl, rfl⟩) | (refine syl_id ?_; first | (refine ys (op_call0 (f := 97) (hc := fun w' X hk hh => hr w' _ (blk_range (hh.has (by exact Has.append Has.here)) Seg.all))) (k := ?_); rintro _ _ ⟨R, rfl, bc, rfl, rfl⟩) | refine yv (op_indexN (j := 0)) (k := ?_) | refine yv (op_loads (B := natC r)) (k := ?_) | refine yn (op_storeNat (n := r)) (k := ?_) | fail) | fail)
  exact ret1 rfl (resCells (B := natC r) rfl (ty rfl) rfl Has.go Seg.all (natC_len _).symm) SubR.nil ⟨rfl, rfl⟩
theorem product_bits (m a b : Nat) (w : World) (hm : m < 18446744073709551616 ^ 16) (ha : a < m) (hb : b < m) (hs : ¬ nd 2 a + nd 2 b ≤ 1024) (hz : (1024 - nd 2 m) / 8 = 0) :
    Sy.Fn Tryz.prog 99 [natV m, natV a, natV b] w No (Gives (natV (a * b % m))) := by
  refine fn_enter Tryz.func99 rfl Tryz.ntmps99 (by simp) Holds.nil ?_
  have hlm := natC_len m
  have hla := natC_len a
  have hlb := natC_len b
  have haW := Nat.lt_trans ha hm
  have hbW := Nat.lt_trans hb hm
  have h1 := fun w' => bitLen_fn a w' haW
  have h2 := fun w' => bitLen_fn b w' hbW
  have h3 := fun w' => bitLen_fn m w' hm
  have hna := nd2_W haW
  have hnb := nd2_W hbW
  have hnm := nd2_W hm
  have h0 : 0 < m := by omega
  obtain ⟨V, hV⟩ : ∃ V : Nat → Nat, ∀ k, V k = k * a % m := ⟨fun k => k * a % m, fun _ => rfl⟩
  have hD : ∀ k w', Sy.Fn Tryz.prog 120 ([natV m] ++ [natV (V k)] ++ []) w' No (Gives (natV (V (2 * k)))) := fun k w' => by
    have := double_fn m (V k) w' hm (by rw [hV]; exact Nat.mod_lt _ h0)
    rw [show (V k + V k) % m = V (2 * k) by rw [hV, hV, ← Nat.add_mod, ← Nat.add_mul, Nat.two_mul]] at this
    exact this
  have hA : ∀ k w', Sy.Fn Tryz.prog 100 ([natV m] ++ [natV (V k), natV a] ++ []) w' No (Gives (natV (V (k + 1)))) := fun k w' => by
    have := sum_fn m (V k) a w' hm (by rw [hV]; exact Nat.mod_lt _ h0) ha
    rw [show (V k + a) % m = V (k + 1) by rw [hV, hV, Nat.mod_add_mod, Nat.add_mul, Nat.one_mul]] at this
    exact this
  have hlad := fun w' => ladder_fn b a V 120 100 [natV m] [] [natV m] [] w' hbW (en rfl) (en rfl) hD hA
  rw [show V 0 = 0 by rw [hV, Nat.zero_mul, Nat.zero_mod], show V b = a * b % m by rw [hV, Nat.mul_comm]] at hlad
  have hlr := natC_len (a * b % m)
  have hl0 := natC_len 0
  clear hD hA hV
  generalize a * b % m = r at *
  generalize nd 2 a = na at *
  generalize nd 2 b = nb at *
  generalize nd 2 m = nm at *
  have hadd : IntKind.i64.wrap ((na : Int) + (nb : Int)) = ((na + nb : Nat) : Int) := by rw [IntWalk.i64_in _ (by omega)]; omega
  have hle : decide (((na + nb : Nat) : Int) ≤ 1024) = false := decide_eq_false (by omega)
  have hsub : IntKind.i64.wrap (1024 - (nm : Int)) = ((1024 - nm : Nat) : Int) := by rw [IntWalk.i64_in _ (by omega)]; omega
  have hquo : IntKind.i64.wrap ((((1024 - nm : Nat)) : Int).tdiv 8) = ((0 : Nat) : Int) := by
    have := quoI (p := 1024 - nm) (k := 8) (by omega)
    rw [hz] at this
    exact this
  repeat' (first | refine sy_seqC ?_ | refine syl_nil ?_ | refine sy_if_t rfl ?_ | refine sy_if_f rfl ?_ | refine sy_skip ?_ | refine sy_ret ?_ | refine syx_then ?_ | refine syx_go ?_ | refine syx_then_ret ?_ | (refine sy_region (id := 0) ?_; (refine y_new ?_; intro _); (refine y_new ?_; intro _); (refine y_new ?_; intro _); (refine y_new ?_; intro _)) | (refine sy_draw (id := 1) 3 [[], [0], [], [0, 1, 2], [0, 1, 2, 3], [0, 1, 2, 3, 4]] mixed ?_ ?_; kernel_rfl; refine dc (fun _ _ => op_loads (B := natC a)) (k := ?_); refine dc (fun _ _ => op_callV (hc := fun _ _ _ _ => (h1 _))) (k := ?_); refine dc (fun _ _ => op_loads (B := natC b)) (k := ?_); refine dh_0n ?_; refine yv (op_callV (hc := fun _ _ _ _ => (h2 _))) (k := ?_); refine yv (op_add (hr := hadd)) (k := ?_); refine yv (op_leq (hr := hle)) (k := ?_)) | (refine sy_region (id := 4) ?_; refine y_fieldAddr ?_; refine yv (op_loads (B := natC m)) (k := ?_); refine yv (op_callV (hc := fun _ _ _ _ => (h3 _))) (k := ?_); refine yv (op_sub (hr := hsub)) (k := ?_); refine yv (op_quo (hr := hquo)) (k := ?_); refine y_assign ?_) | (refine sy_region (id := 5) ?_; refine y_move ?_; refine y_eql ?_) | (refine sy_region (id := 6) ?_; refine yv (op_loads (B := natC b)) (k := ?_); refine yv op_zeroN (k := ?_); refine yv (op_loads (B := natC a)) (k := ?_); refine yv (op_loads (B := natC m)) (k := ?_); refine y_makeFunc ?_; refine yv (op_loads (B := natC m)) (k := ?_); refine y_makeFunc ?_; refine yv (op_callV (hc := fun _ _ _ _ => (hlad _))) (k := ?_); refine yn (op_storeNat (n := r)) (k := ?_)) | fail)
  exact ret1 rfl (resCells (B := natC r) rfl (ty rfl) rfl Has.go Seg.all (natC_len _).symm) SubR.nil ⟨rfl, rfl⟩
set_option maxHeartbeats 1000000 in
/-- A product by parts of the second factor. -/
theorem product_parts (m a b : Nat) (w : World) (hm : m < 18446744073709551616 ^ 16) (ha : a < m) (hb : b < m) (hs : ¬ nd 2 a + nd 2 b ≤ 1024) (hz : (1024 - nd 2 m) / 8 ≠ 0) :
    Sy.Fn Tryz.prog 99 [natV m, natV a, natV b] w No (Gives (natV (a * b % m))) := by
  refine fn_enter Tryz.func99 rfl Tryz.ntmps99 (by simp) Holds.nil ?_
  have hlm := natC_len m
  have hla := natC_len a
  have hlb := natC_len b
  have haW := Nat.lt_trans ha hm
  have hbW := Nat.lt_trans hb hm
  have h1 := fun w' => bitLen_fn a w' haW
  have h2 := fun w' => bitLen_fn b w' hbW
  have h3 := fun w' => bitLen_fn m w' hm
  have hna := nd2_W haW
  have hnb := nd2_W hbW
  have hnm := nd2_W hm
  have h0 : 0 < m := by omega
  obtain ⟨z, hzz⟩ : ∃ z, z = (1024 - nd 2 m) / 8 := ⟨_, rfl⟩
  rw [← hzz] at hz
  have hz0 : 0 < z := by omega
  have hz8 : nd 2 m + 8 * z ≤ 1024 := (part_size h0 hzz).resolve_right hz
  have hz128 : z ≤ 128 := by omega
  have hRW : 256 ^ z < 18446744073709551616 ^ 16 := by
    have := part_fits (x := 1) (y := 256 ^ z) hz8 (by
      rcases Nat.lt_or_ge 1 m with h | h
      · exact h
      · exfalso
        have e1 : a = 0 := by omega
        have e2 : b = 0 := by omega
        subst e1; subst e2
        rw [nd_zero] at hs
        omega) (Nat.le_refl _)
    rwa [Nat.one_mul] at this
  have hrad := fun w' aR cR (h : SlA w' aR ((1 :: List.replicate z 0 : List UInt8).map v8)) (hc : z + 1 ≤ cR) => fromBytes_fn aR (z + 1) cR (1 :: List.replicate z 0) w' (by simp) hc h (by omega)
  rw [bev_radix, if_pos hRW] at hrad
  have hquo : IntKind.i64.wrap ((((1024 - nd 2 m : Nat)) : Int).tdiv 8) = ((z : Nat) : Int) := by
    rw [hzz]; exact quoI (p := 1024 - nd 2 m) (k := 8) (by omega)
  generalize hna' : nd 2 a = na at *
  generalize hnb' : nd 2 b = nb at *
  have hadd : IntKind.i64.wrap ((na : Int) + (nb : Int)) = ((na + nb : Nat) : Int) := by rw [IntWalk.i64_in _ (by omega)]; omega
  have hle : decide (((na + nb : Nat) : Int) ≤ 1024) = false := decide_eq_false (by omega)
  have hsub : IntKind.i64.wrap (1024 - ((nd 2 m : Nat) : Int)) = ((1024 - nd 2 m : Nat) : Int) := by rw [IntWalk.i64_in _ (by omega)]; omega
  have hne : decide ((z : Int) = 0) = false := decide_eq_false (by omega)
  have hys : [Value.int IntKind.u8 1] ++ List.replicate z (Value.int IntKind.u8 0) = (1 :: List.replicate z 0 : List UInt8).map v8 := by
    rw [List.map_cons, List.map_replicate]; rfl
  have hlR := natC_len (256 ^ z)
  repeat' (first | refine sy_seqC ?_ | refine syl_nil ?_ | refine sy_if_f rfl ?_ | refine sy_skip ?_ | refine syx_then ?_ | refine syx_go ?_ | (refine sy_region (id := 0) ?_; (refine y_new ?_; intro _); (refine y_new ?_; intro _); (refine y_new ?_; intro _); (refine y_new ?_; intro _)) | (refine sy_draw (id := 1) 3 [[], [0], [], [0, 1, 2], [0, 1, 2, 3], [0, 1, 2, 3, 4]] mixed ?_ ?_; kernel_rfl; refine dc (fun _ _ => op_loads (B := natC a)) (k := ?_); refine dc (fun _ _ => op_callV (hc := fun _ _ _ _ => (h1 _))) (k := ?_); refine dc (fun _ _ => op_loads (B := natC b)) (k := ?_); refine dh_0n ?_; refine yv (op_callV (hc := fun _ _ _ _ => (h2 _))) (k := ?_); refine yv (op_add (hr := hadd)) (k := ?_); refine yv (op_leq (hr := hle)) (k := ?_)) | (refine sy_region (id := 4) ?_; refine y_fieldAddr ?_; refine yv (op_loads (B := natC m)) (k := ?_); refine yv (op_callV (hc := fun _ _ _ _ => (h3 _))) (k := ?_); refine yv (op_sub (hr := hsub)) (k := ?_); refine yv (op_quo (hr := hquo)) (k := ?_); refine y_assign ?_) | (refine sy_region (id := 5) ?_; refine y_move ?_; refine yv (op_eql (hr := hne)) (k := ?_)) | (refine sy_region (id := 7) ?_; (refine ys op_buildSlice (k := ?_); rintro _ _ ⟨_, rfl, rfl⟩); refine y_move ?_; (refine ys (OpT.conv (conv_shut (n := 1) (s := 1) (by repeat (first | exact Rem.here | apply Rem.there)) rfl (by unfold maxLen; omega)) (op_appendZ (k := 1) (m := z) (km := z + 1) (hm := rfl) (hL := Rem.here) (hkm := (by omega : 1 + z = z + 1)) (hys := hys))) (k := ?_); rintro _ _ ⟨rfl, aR, cR, rfl⟩); refine yv (op_callV (f := 72) (hc := fun w' _ _ hh => hrad w' _ _ (row_sla hh (by exact Has.append Has.go)) (Row.cap (n := z + 1) hh (by exact Has.append Has.go)))) (k := ?_); refine y_move ?_; refine y_extract ?_; refine y_extract ?_; (refine y_new ?_; intro _); refine yn (op_storeNat (n := 256 ^ z)) (k := ?_); refine y_assign ?_) | fail)
  rename_i b3 b4 b5 b6 wx b10
  clear hrad h1 h2 h3 hadd hle hsub hquo hys
  refine Sy.weaken (fr' := [(3, .pointer (some ⟨b3, 0, none⟩)), (4, .pointer (some ⟨b4, 0, none⟩)), (5, .pointer (some ⟨b5, 0, none⟩)), (6, .pointer (some ⟨b6, 0, none⟩)), (9, .int .i64 z), (10, .pointer (some ⟨b10, 0, none⟩))])
    (L' := [.blk b3 149 (natC m), .blk b4 44 (natC a), .blk b5 44 (natC b), .blk b6 44 (List.replicate 16 (Value.int IntKind.u64 0)), .blk b10 44 (natC (256 ^ z))]) ?_ (by exact Sub.go) (by exact SubR.go2)
  have hby := fun w' => bytes_fn b w' hbW
  have hnd := nd_le 256 b 128 (by decide) (by rw [← w_of 256 8 128 (by decide) (by decide)]; exact hbW)
  have hbl := byt_len b
  have hbev := bev_byt b
  generalize byt b = D0 at *
  generalize nd 256 b = n0 at *
  obtain ⟨c, hc⟩ := pad_of z n0 hz0
  obtain ⟨k0, hk0⟩ : ∃ k0, k0 = (z - n0 % z) % z := ⟨_, rfl⟩
  rw [← hk0] at hc
  have hk0z : k0 < z := by rw [hk0]; exact Nat.mod_lt _ hz0
  have q1 : (n0 : Int).tmod (z : Int) = ((n0 % z : Nat) : Int) := remI n0 z
  have hml := Nat.mod_lt n0 hz0
  have q2 : IntKind.i64.wrap ((z : Int) - ((n0 % z : Nat) : Int)) = ((z - n0 % z : Nat) : Int) := by rw [IntWalk.i64_in _ (by omega)]; omega
  have q3 : ((z - n0 % z : Nat) : Int).tmod (z : Int) = ((k0 : Nat) : Int) := by rw [hk0]; exact remI _ z
  obtain ⟨D, hD⟩ : ∃ D, D = List.replicate k0 0 ++ D0 := ⟨_, rfl⟩
  have hDl : D.length = z * c := by rw [hD, List.length_append, List.length_replicate, hbl, hc]
  have hDb : bev 256 (bn D) = b := by rw [hD, bev_zeros, hbev]
  have hys : List.replicate k0 (Value.int IntKind.u8 0) ++ D0.map v8 = D.map v8 := by
    rw [hD, List.map_append, List.map_replicate]; rfl
  have hzc : z * c < 300 := by omega
  have hlen : k0 + n0 = z * c := hc
  generalize n0 % z = n1 at *
  generalize z - n1 = n2 at *
  repeat' (first | refine sy_seqC ?_ | refine syl_nil ?_ | refine sy_block ?_ | refine syx_then ?_ | refine syx_go ?_ | (refine sy_region (id := 8) ?_; refine yv (op_loads (B := natC b)) (k := ?_); (refine ys (op_call0 (f := 121) (hc := fun w' X hk hh => hby w')) (k := ?_); rintro _ _ ⟨R, rfl, bB, rfl, rfl⟩); refine y_assign ?_) | (refine sy_region (id := 9) ?_; refine y_move ?_; refine y_move ?_; refine y_len ?_; refine y_move ?_; refine yv (op_rem (hr := q1)) (k := ?_); refine yv (op_sub (hr := q2)) (k := ?_); refine y_move ?_; refine yv (op_rem (hr := q3)) (k := ?_)) | (refine sy_region (id := 10) ?_; (refine y_new ?_; intro _)) | (refine sy_region (id := 11) ?_; refine y_assign ?_) | (refine ys (op_makeB (n := k0)) (k := ?_); rintro _ _ ⟨bz, rfl, rfl⟩) | (refine syl_id ?_; first | (refine ys (op_appendB (k := k0) (m := n0) (hxn := by rw [List.length_replicate, Nat.mul_one]) (hr := Rd.of (Reads.blk (C := D0.map v8) (T := 5) Has.go Seg.all)) (hn := by rw [List.length_map, hbl, Nat.mul_one]) (hkm := hlen) (hys := hys)) (k := ?_); rintro _ _ ⟨rfl, aD, cD, rfl⟩) | refine y_assign ?_ | refine y_move ?_ | fail) | fail)
  rename_i b13
  have hl0 := natC_len 0
  rw [natC0]
  refine sy_loop (γ := Nat) (fun j => [(3, .pointer (some ⟨b3, 0, none⟩)), (4, .pointer (some ⟨b4, 0, none⟩)), (6, .pointer (some ⟨b6, 0, none⟩)), (9, .int .i64 z), (10, .pointer (some ⟨b10, 0, none⟩)), (12, .slice aD (z * c) cD), (13, .pointer (some ⟨b13, 0, none⟩)), (14, .int .i64 ((z * j : Nat) : Int))])
    (fun j => [.blk b13 44 (natC (a * bev 256 (bn (D.take (z * j))) % m)), .row (.slice aD (z * c) cD) 5 1 (z * c) (D.map v8), .blk b3 149 (natC m), .blk b4 44 (natC a), .blk b10 44 (natC (256 ^ z)), .blk b6 44 (natC 0)])
    (fun j => j ≤ c) (fun j => c - j) 0 (Nat.zero_le _) ?_ ?_ ?_
  · exact Sub.go
  · show SubR [.blk b13 44 (natC (a * bev 256 (bn (D.take 0)) % m)), .row (.slice aD (z * c) cD) 5 1 (z * c) (D.map v8), .blk b3 149 (natC m), .blk b4 44 (natC a), .blk b10 44 (natC (256 ^ z)), .blk b6 44 (natC 0)] _
    rw [List.take_zero, show bev 256 (bn []) = 0 from rfl, Nat.mul_zero, Nat.zero_mod]
    exact SubR.go2
  clear hby hys hbl hbev
  intro j hj
  refine sy_fact (fun w' hh => (Row.cap (a := aD) (n := z * c) (c := cD) hh Has.go : z * c ≤ cD)) fun hcD => ?_
  rcases Nat.lt_or_ge j c with h | h
  · have hzj : z * j + z ≤ z * c := by rw [← Nat.mul_succ]; exact Nat.mul_le_mul_left z h
    have hlt : decide (((z * j : Nat) : Int) < ((z * c : Nat) : Int)) = true := decide_eq_true (by omega)
    have hadd : IntKind.i64.wrap (((z * j : Nat) : Int) + (z : Int)) = ((z * j + z : Nat) : Int) := by rw [IntWalk.i64_in _ (by omega)]; omega
    have hch := bev_chunk D (z * j) z (by omega)
    have hcl := chunk_lt D (z * j) z (by omega)
    have hps := part_step m a (bev 256 (bn (D.take (z * j)))) (256 ^ z) (bev 256 (bn ((D.take (z * j + z)).drop (z * j))))
    rw [← hch] at hps
    have hcW : bev 256 (bn ((D.take (z * j + z)).drop (z * j))) < 18446744073709551616 ^ 16 := Nat.lt_trans hcl hRW
    have hfb := fun w' (hs : SlA w' aD (D.map v8)) (hcap : z * c ≤ cD) => fromBytes_fn (movA aD (z * j) (z * j + z) 1) z z ((D.take (z * j + z)).drop (z * j)) w' (by rw [List.length_drop, List.length_take]; omega) (Nat.le_refl _) (by
      rw [List.map_drop, List.map_take]
      exact (hs.take _).mov (by rw [List.length_take]; omega)) (by omega)
    rw [if_pos hcW] at hfb
    have hrm := Nat.mod_lt (a * bev 256 (bn (D.take (z * j)))) h0
    have hf1 := part_fits hz8 hrm (Nat.le_refl _)
    have hf2 := part_fits hz8 ha (Nat.le_of_lt hcl)
    have hM1 := fun w' => mul_fn (a * bev 256 (bn (D.take (z * j))) % m) (256 ^ z) w' (Nat.lt_trans hrm hm) hRW
    have hM2 := fun w' => mul_fn a (bev 256 (bn ((D.take (z * j + z)).drop (z * j)))) w' haW hcW
    rw [if_pos hf1] at hM1
    rw [if_pos hf2] at hM2
    have hcur : a * bev 256 (bn (D.take (z * (j + 1)))) % m = a * bev 256 (bn (D.take (z * j + z))) % m := by rw [Nat.mul_succ]
    have hzj1 : ((z * (j + 1) : Nat) : Int) = ((z * j + z : Nat) : Int) := by rw [Nat.mul_succ]
    rw [← hps] at hcur
    generalize bev 256 (bn ((D.take (z * j + z)).drop (z * j))) = d at *
    generalize a * bev 256 (bn (D.take (z * j))) % m = R0 at *
    have hres := fun w' b' (hs : w'.rangeAt b' 0 (rowN [R0 * 256 ^ z, a * d])) => residues2_fn m (R0 * 256 ^ z) (a * d) b' w' hm h0 hf1 hf2 hs
    have hsum := fun w' => sum_fn m (R0 * 256 ^ z % m) (a * d % m) w' hm (Nat.mod_lt _ h0) (Nat.mod_lt _ h0)
    rw [← hcur] at hsum
    have hl1 := natC_len R0
    have hl2 := natC_len d
    have hl3 := natC_len (R0 * 256 ^ z)
    have hl4 := natC_len (a * d)
    have hl5 := natC_len (R0 * 256 ^ z % m)
    have hl6 := natC_len (a * d % m)
    have hl7 := natC_len (a * bev 256 (bn (D.take (z * (j + 1)))) % m)
    generalize hnew : a * bev 256 (bn (D.take (z * (j + 1)))) % m = R1 at *
    clear hcur hf1 hf2 hcW hps hch hcl hrm hDb
    generalize R0 * 256 ^ z % m = r1 at *
    generalize a * d % m = r2 at *
    generalize R0 * 256 ^ z = p1 at *
    generalize a * d = p2 at *
    generalize 256 ^ z = rad at *
    repeat' (first | refine sy_seqC ?_ | refine syl_nil ?_ | refine sy_if_t rfl ?_ | refine sy_block ?_ | refine sy_skip ?_ | refine syx_then ?_ | refine syx_go ?_ | (refine sy_region (id := 12) ?_; refine y_move ?_; refine y_move ?_; refine y_len ?_; refine yv (op_lss (hr := hlt)) (k := ?_)) | (refine sy_region (id := 14) ?_; refine y_move ?_; refine y_move ?_; refine y_move ?_; refine y_move ?_; refine yv (op_add (hr := hadd)) (k := ?_); refine y_move ?_; refine y_move ?_; refine yv (op_add (hr := hadd)) (k := ?_); refine yv (op_sliceR (l := z * j) (h := z * j + z) (m := z * j + z) (n' := z) (c' := z) (hn' := by omega) (hc' := by omega)) (k := ?_); refine yv (op_callV (f := 72) (hc := fun w' _ _ hh => hfb w' (row_sla hh (by exact Has.append Has.go)) (Row.cap (n := z * c) hh (by exact Has.append Has.go)))) (k := ?_); refine y_move ?_; refine y_extract ?_; refine y_extract ?_; (refine y_new ?_; intro _); refine yn (op_storeNat (n := d)) (k := ?_); refine y_assign ?_) | fail)
    repeat' (first | refine sy_seqC ?_ | refine syl_nil ?_ | refine syx_then ?_ | refine syx_go ?_ | (refine sy_region (id := 15) ?_; refine yv (op_loads (B := natC R0)) (k := ?_); refine yv (op_loads (B := natC rad)) (k := ?_); refine yv (op_callV (hc := fun _ _ _ _ => (hM1 _))) (k := ?_); refine y_move ?_; refine y_extract ?_; refine y_extract ?_; (refine y_new ?_; intro _); refine yn (op_storeNat (n := p1)) (k := ?_); refine y_assign ?_) | (refine sy_region (id := 16) ?_; refine yv (op_loads (B := natC a)) (k := ?_); refine yv (op_loads (B := natC d)) (k := ?_); refine yv (op_callV (hc := fun _ _ _ _ => (hM2 _))) (k := ?_); refine y_move ?_; refine y_extract ?_; refine y_extract ?_; (refine y_new ?_; intro _); refine yn (op_storeNat (n := p2)) (k := ?_); refine y_assign ?_) | (refine sy_region (id := 17) ?_; refine yv (op_loads (B := natC m)) (k := ?_); refine yv (op_loads (B := natC p1)) (k := ?_); refine yv (op_loads (B := natC p2)) (k := ?_)) | (refine sy_draw (id := 18) 7 [[], [], [1], [1, 2], [], [4], [4, 5], [0, 1, 2, 3, 4, 5, 6], [0, 1, 2, 3, 4, 5, 6, 7]] mixed ?_ ?_; kernel_rfl; refine dc (fun _ _ => op_loads (B := natC m)) (k := ?_); refine d_move ?_; refine dc (fun _ _ => op_indexN (j := 0)) (k := ?_); refine dc (fun _ _ => op_loads (B := natC r1) (hv := (seg2 r1 r2).1)) (k := ?_); refine d_move ?_; refine dc (fun _ _ => op_indexN (j := 1)) (k := ?_); refine dc (fun _ _ => op_loads (B := natC r2) (hv := (seg2 r1 r2).2)) (k := ?_); refine dh_0n ?_; refine yv (op_callV (hc := fun _ _ _ _ => (hsum _))) (k := ?_); refine yn (op_storeNat (n := R1)) (k := ?_)) | (refine sy_region (id := 13) ?_; refine y_move ?_; refine y_move ?_; refine yv (op_add (hr := hadd)) (k := ?_); refine y_assign ?_) | (refine ys (op_buildN2 (x := p1) (x' := p2)) (k := ?_); rintro _ _ ⟨bb, rfl, rfl⟩) | (refine syl_id ?_; first | (refine ys (op_call0 (f := 97) (hc := fun w' X hk hh => hres w' _ (blk_range (hh.has (by exact Has.append Has.here)) Seg.all))) (k := ?_); rintro _ _ ⟨R, rfl, bc, rfl, rfl⟩) | refine y_assign ?_ | fail) | fail)
    refine syx_back (j + 1) ?_ ?_ ?_ ?_
    · show j + 1 ≤ c; omega
    · show c - (j + 1) < c - j; omega
    · rw [hzj1]
      exact Sub.go
    · show SubR [.blk b13 44 (natC (a * bev 256 (bn (D.take (z * (j + 1)))) % m)), .row (.slice aD (z * c) cD) 5 1 (z * c) (D.map v8), .blk b3 149 (natC m), .blk b4 44 (natC a), .blk b10 44 (natC rad), .blk b6 44 (natC 0)] _
      rw [hnew]
      exact SubR.go2
  · obtain rfl : j = c := by omega
    have hlt : decide (((z * j : Nat) : Int) < ((z * j : Nat) : Int)) = false := decide_eq_false (by omega)
    rw [List.take_of_length_le (by omega), hDb]
    have hlr := natC_len (a * b % m)
    generalize a * b % m = r at *
    repeat' (first | refine sy_seqC ?_ | refine syl_nil ?_ | refine sy_if_f rfl ?_ | refine sy_ret ?_ | refine sy_exit ?_ | refine syx_then ?_ | refine syx_go ?_ | (refine sy_region (id := 12) ?_; refine y_move ?_; refine y_move ?_; refine y_len ?_; refine yv (op_lss (hr := hlt)) (k := ?_)) | (refine sy_region (id := 19) ?_; refine yv (op_loads (B := natC r)) (k := ?_); refine yn (op_storeNat (n := r)) (k := ?_)) | fail)
    exact ret1 rfl (resCells (B := natC r) rfl (ty rfl) rfl Has.go Seg.all (natC_len _).symm) SubR.nil ⟨rfl, rfl⟩
theorem product_fn (m a b : Nat) (w : World) (hm : m < 18446744073709551616 ^ 16) (ha : a < m) (hb : b < m) :
    Sy.Fn Tryz.prog 99 [natV m, natV a, natV b] w No (Gives (natV (a * b % m))) := by
  by_cases h1 : nd 2 a + nd 2 b ≤ 1024
  · exact product_small m a b w hm ha hb h1
  · by_cases h2 : (1024 - nd 2 m) / 8 = 0
    · exact product_bits m a b w hm ha hb h1 h2
    · exact product_parts m a b w hm ha hb h1 h2
theorem square_fn (m a : Nat) (w : World) (hm : m < 18446744073709551616 ^ 16) (ha : a < m) :
    Sy.Fn Tryz.prog 124 [natV m, natV a] w No (Gives (natV (a * a % m))) := by
  refine fn_enter Tryz.func124 rfl Tryz.ntmps124 (by simp) Holds.nil ?_
  have hlm := natC_len m
  have hla := natC_len a
  have hs := fun w' => product_fn m a a w' hm ha ha
  have hls := natC_len (a * a % m)
  generalize a * a % m = s at *
  repeat' (first | refine sy_seqC ?_ | refine syl_nil ?_ | refine sy_ret ?_ | refine syx_then ?_ | refine syx_go ?_ | (refine sy_region (id := 0) ?_; (refine y_new ?_; intro _); (refine y_new ?_; intro _); (refine y_new ?_; intro _)) | (refine sy_region (id := 1) ?_; refine yv (op_loads (B := natC m)) (k := ?_); refine yv (op_loads (B := natC a)) (k := ?_); refine yv (op_loads (B := natC a)) (k := ?_); refine yv (op_callV (hc := fun _ _ _ _ => (hs _))) (k := ?_); refine yn (op_storeNat (n := s)) (k := ?_)) | fail)
  exact ret1 rfl (resCells (B := natC s) rfl (ty rfl) rfl Has.go Seg.all (natC_len _).symm) SubR.nil ⟨rfl, rfl⟩
end Go.Proofs.YtaeddmcoanefhaaGreatDoor
end
