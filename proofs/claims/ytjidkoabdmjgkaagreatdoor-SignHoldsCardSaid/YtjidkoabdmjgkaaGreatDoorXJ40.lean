/- The program's iterator over the blocks of a padded string, walked. -/
import Derived.Test.YtjidkoabdmjgkaaGreatDoorXJ39
import Derived.Test.YtjidkoabdmjgkaaGreatDoorXJ03
set_option linter.all false
section
namespace Go.Sh
open Go.Wd Go.RowKit Go.Sy
def ArgB (O : Nat → Prop) (x : List UInt8) (vs : List Value) (RA : List Res) (W : World) : Prop := ∃ b o, vs = [.slice (some ⟨b, o, none⟩) 64 64] ∧ RA = [] ∧ W.rangeAt b o (x.map Sy.v8) ∧ ¬ O b
theorem zk5 (n i : Nat) (hi : i < 8) : Op.shift .shr .u64 ((n : Int) * 8) .i64 (8 * (i : Int)) = pure (.int .u64 (((8 * n) / 256 ^ i : Nat) : Int)) ∧ IntKind.u8.wrap (((8 * n) / 256 ^ i : Nat) : Int) = n8 (UInt8.ofNat ((8 * n) / 256 ^ i)) := by
  refine ⟨?_, ?_⟩
  · rw [show (8 * (i : Int)) = ((8 * i : Nat) : Int) from (Int.natCast_mul 8 i).symm, shift_shr_any _ _ _ _ (Int.natCast_nonneg _), Int.toNat_natCast, show min (8 * i) IntKind.u64.bits = 8 * i from Nat.min_eq_left (by show 8 * i ≤ 64; omega)]
    congr 2
    rw [show ((n : Int) * 8) = ((8 * n : Nat) : Int) from by omega, show ((2 : Int) ^ (8 * i)) = ((256 ^ i : Nat) : Int) by rw [Int.natCast_pow, Int.pow_mul]; rfl, ← Int.natCast_ediv]
  · rw [wrap_u8_nat, n8_of_nat]
end Go.Sh
namespace Go.Proofs.YtjidkoabdmjgkaaGreatDoor
open Go Go.Sy Go.Wd Go.Sh
attribute [local irreducible] Sy SyL SyX Sy.Fn callFunc n8 n32 Rem Has Upd SubR Sy.Sub SetAt Rd Reads Seg RemL
set_option maxRecDepth 10000
theorem zjy (v : Value) (n : Int) (w : World) (hv : v.oneCell' = true) :
    Sy.Fn Tryz.prog 111 [v, .int .i64 n] w No (fun u R => ∃ b1 b2, u = .func (.func 136) #[] #[.pointer (some ⟨b1, 0, none⟩), .pointer (some ⟨b2, 0, none⟩)] ∧ R = [.blk b1 22 [v], .blk b2 3 [.int .i64 n]]) := by
  refine zq Tryz.func111 rfl Tryz.ntmps111 (by simp) Holds.nil ?_
  refine zh ?_
  refine za ?_
  refine ya (zkr (hv := hv)) (k := ?_); intro b1
  repeat' (first | refine zh ?_ | refine zf ?_ | refine zp ?_ | refine ze ?_ | refine zj ?_ | (refine za (id := 1) ?_; refine zag ?_; refine zd ?_) | (refine zT ?_; first | refine zd ?_ | (refine zm ?_; intro _) | fail) | fail)
  rename_i b2
  exact ret1 rfl (resTmp rfl) (by exact SubR.go) ⟨b1, b2, rfl, rfl⟩
set_option maxHeartbeats 1000000 in
theorem zjd (b1 b2 : Nat) (a0 : Option Addr) (n cap total : Nat) (last : List UInt8) (w : World) (M : Nat → Prop) (hn : last.length = n) (hcap : n ≤ cap) (ht : total < 2305843009213693952)
    (hsl : SlF w M a0 (last.map Sy.v8)) :
    IterC Tryz.prog 136 [.pointer (some ⟨b1, 0, none⟩), .pointer (some ⟨b2, 0, none⟩)] (blocks last total) ArgB w M [.blk b1 22 [.slice a0 n cap], .blk b2 3 [.int .i64 total]] := by
  intro l J Jx j0 hJ0 hh hY
  refine zq Tryz.func136 rfl Tryz.ntmps136 (by simp) hh ?_
  repeat' (first | refine zh ?_ | refine zf ?_ | refine zu ?_ | refine ze ?_ | refine zj ?_ | (refine za (id := 0) ?_; refine zz ?_; refine zd ?_) | fail)
  refine zQ (γ := Nat × Nat × Nat × Option Addr × Res) (fun g => [(0, .func (.yield l) #[] #[]), (1, .pointer (some ⟨b1, 0, none⟩)), (2, .pointer (some ⟨b2, 0, none⟩)), (4, .slice g.2.2.2.1 g.2.1 g.2.2.1)])
    (fun g => [g.2.2.2.2, .blk b1 22 [.slice a0 n cap], .blk b2 3 [.int .i64 total]])
    (fun g => 64 * g.1 + g.2.1 = n ∧ g.2.1 ≤ g.2.2.1 ∧ g.2.2.1 ≤ cap ∧ J g.1 g.2.2.2.2 ∧ SlF w M g.2.2.2.1 ((last.drop (64 * g.1)).map Sy.v8))
    (fun g => g.2.1) (0, n, cap, a0, j0) ⟨by simp, hcap, Nat.le_refl _, hJ0, by simpa using hsl⟩ ?_ ?_ ?_
  · exact Sub.go
  · exact SubR.go
  rintro ⟨q, m, c, a1, j⟩ ⟨hq, hmc, hcc, hJ, hs1⟩
  dsimp only at *
  have hrl : (last.drop (64 * q)).length = m := by rw [List.length_drop]; omega
  by_cases hge : 64 ≤ m
  · have hjq : q < last.length / 64 := by omega
    have hkx : q < (blocks last total).length := by rw [zfs]; omega
    have hxj : (blocks last total)[q] = (last.drop (64 * q)).take 64 := by
      have := zji last total q hjq
      rw [List.getElem?_eq_getElem hkx] at this; exact Option.some.inj this
    obtain ⟨b, o, rfl, hr, hnM⟩ : ∃ b o, a1 = some ⟨b, o, none⟩ ∧ w.rangeAt b o ((last.drop (64 * q)).map Sy.v8) ∧ ¬ M b := by
      rcases hs1 with h | h
      · exfalso; have := congrArg List.length h; rw [List.length_map, hrl] at this; simp at this; omega
      · exact h
    have harg : ∀ (w' : World) (X : List Res), Keep M w w' → Holds w.heap.size M (j :: [] ++ X) w' → ArgB j.own (blocks last total)[q] [.slice (some ⟨b, o, none⟩) 64 64] [] w' := fun w' X hk hh' =>
      ⟨b, o, rfl, rfl, fun i v hv => hk.cell (hr i v (by
        rw [hxj, List.map_take, List.getElem?_take] at hv
        split at hv
        · exact hv
        · cases hv)) hnM, fun hb => by
        rcases hh'.mine j List.mem_cons_self b hb with h | h
        · have := World.block_lt_of_cell? w ⟨b, o, none⟩ (u := Sy.v8 ((last.drop (64 * q)).getD 0 0)) (by
            have := hr 0 (Sy.v8 ((last.drop (64 * q)).getD 0 0)) (by rw [List.getElem?_map, List.getD_eq_getElem?_getD, List.getElem?_eq_getElem (by omega)]; rfl)
            rw [Nat.add_zero] at this; exact this)
          dsimp only at this; omega
        · exact hnM h⟩
    repeat' (first | refine zh ?_ | refine zf ?_ | refine zw rfl ?_ | refine zu ?_ | refine zr ?_ | refine ze ?_ | refine zj ?_ | (refine za (id := 1) ?_; refine zb ?_; refine zA ?_; refine zaj ?_) | (refine za (id := 2) ?_; refine zb ?_; refine zb ?_; refine zbn ?_; (refine ys (zb3 hY hkx hJ (hL := RemL.cons (by exact Rem.here) rfl RemL.nil) (harg := fun w' X hk hh' => harg w' _ hk hh')) (k := ?_); rintro _ _ ⟨y, j', rfl, rfl, hy⟩); refine zau ?_) | fail)
    refine zcj rfl (fun h => ?_) (fun h => ?_)
    · obtain rfl : y = false := by simpa using h
      repeat' (first | refine zp ?_ | refine zy ?_ | refine zad ?_ | fail)
      exact ret0 rfl (by exact SubR.go) ⟨j', rfl, .inr ⟨q + 1, by omega, hy⟩⟩
    · obtain rfl : y = true := by simpa using h
      repeat' (first | refine zf ?_ | refine zr ?_ | refine ze ?_ | refine zj ?_ | refine zaq ?_ | (refine za (id := 3) ?_; refine zb ?_; refine zbn ?_; refine zd ?_) | fail)
      refine zI (q + 1, m - 64, c - 64, movA (some ⟨b, o, none⟩) 64 c 1, j') ?_ ?_ ?_ ?_
      · refine ⟨by dsimp only; omega, by dsimp only; omega, by dsimp only; omega, hy, ?_⟩
        · have := hs1.mov (l := 64) (m := c) (by rw [List.length_map, hrl]; exact hmc)
          rw [← List.map_drop, List.drop_drop, show 64 * q + 64 = 64 * (q + 1) from by omega] at this; exact this
      · show m - 64 < m; omega
      · exact Sub.go
      · exact SubR.go
  -- the end
  obtain ⟨r, hr⟩ : ∃ r, r = last.drop (64 * q) := ⟨_, rfl⟩
  have hq2 : last.length / 64 = q := by omega
  rw [← hr] at hrl hs1
  repeat' (first | refine zh ?_ | refine zf ?_ | refine zt rfl ?_ | refine zE ?_ | refine ze ?_ | refine zj ?_ | (refine za (id := 1) ?_; refine zb ?_; refine zA ?_; refine zaj ?_) | (refine za (id := 4) ?_; refine zd ?_) | (refine za (id := 5) ?_; refine zb ?_; refine zA ?_; refine zah ?_; refine z6 ?_) | fail)
  refine zbm (γ := Nat) (fun S => [(0, .func (.yield l) #[] #[]), (1, .pointer (some ⟨b1, 0, none⟩)), (2, .pointer (some ⟨b2, 0, none⟩)), (4, .slice a1 m c), (5, .int .i64 S)])
    (fun _ => [j, .blk b1 22 [.slice a0 n cap], .blk b2 3 [.int .i64 total]]) (fun S => S = if m + 9 > 64 then 128 else 64) ?_ ?_
  · refine zcj rfl (fun h => ?_) (fun h => ?_)
    · repeat' (first | refine zf ?_ | refine ze ?_ | (refine za (id := 6) ?_; refine zd ?_) | fail)
      refine zU 128 ?_ ?_ ?_
      · rw [if_pos (by have := of_decide_eq_true h; omega)]
      · exact Sub.go
      · exact SubR.go
    · repeat' (first | refine zr ?_ | refine ze ?_ | fail)
      refine zU 64 ?_ ?_ ?_
      · rw [if_neg (by have := of_decide_eq_false h; omega)]
      · exact Sub.go
      · exact SubR.go
  intro S hS
  have hS2 : m + 9 ≤ S ∧ S ≤ 128 := by split at hS <;> omega
  have hzero : setSeg (List.replicate S (Value.int .u8 0)) 0 (r.map Sy.v8) = (r ++ List.replicate (S - m) 0).map Sy.v8 := by
    rw [setSeg0, List.length_map, hrl, List.drop_replicate, List.map_append, List.map_replicate, ziT]
  repeat' (first | refine zh ?_ | refine zf ?_ | refine zu ?_ | refine ze ?_ | refine zj ?_ | (refine za (id := 7) ?_; refine zb ?_) | (refine za (id := 8) ?_; refine zb ?_; refine zb ?_; refine yv (zcI (Rd.oldF hs1) (by rw [List.length_map, hrl]) hzero) (k := ?_)) | (refine za (id := 9) ?_; refine zb ?_; refine zb ?_; refine zA ?_; refine zC ?_; refine zH ?_) | (refine za (id := 10) ?_; refine zb ?_) | (refine ys zcK (k := ?_); rintro _ _ ⟨b6, rfl, rfl⟩) | (refine zT ?_; first | refine zd ?_ | fail) | fail)
  obtain ⟨d, hd⟩ : ∃ d, S = m + 1 + d + 8 := ⟨S - m - 9, by omega⟩
  refine zQ (γ := Nat) (fun i => [(0, .func (.yield l) #[] #[]), (1, .pointer (some ⟨b1, 0, none⟩)), (2, .pointer (some ⟨b2, 0, none⟩)), (5, .int .i64 S), (6, .slice (some ⟨b6, 0, none⟩) S S), (32, .int .i64 i)])
    (fun i => [.blk b6 5 ((r ++ 128 :: (List.replicate (d + 8 - i) 0 ++ (be8 (8 * total)).drop (8 - i))).map Sy.v8), j, .blk b1 22 [.slice a0 n cap], .blk b2 3 [.int .i64 total]])
    (fun i => i ≤ 8) (fun i => 8 - i) 0 (Nat.zero_le _) ?_ ?_ ?_
  · exact Sub.go
  · (repeat' (first | exact SubR.nil | (apply SubR.same; with_reducible (focus ((repeat (first | exact Rem.here | apply Rem.there)); done))) | (apply SubR.blk; (focus ((repeat (first | exact Rem.here | apply Rem.there)); done))) | (apply SubR.pick; (focus ((repeat (first | exact Rem.here | apply Rem.there)); done))) | rfl))
    have e1 : (be8 (8 * total)).drop 8 = [] := List.drop_eq_nil_of_le (by rw [zfU]; omega)
    have e2 : S - m = (d + 8) + 1 := by omega
    show _ = List.map Sy.v8 (r ++ 128 :: (List.replicate (d + 8) 0 ++ (be8 (8 * total)).drop 8))
    rw [e1, e2, List.append_nil, show Value.int .u8 128 = Sy.v8 128 from Sy.v8_lit 128 (by decide), ← List.map_set, List.set_append_right _ _ (by omega), hrl, Nat.sub_self]; rfl
  intro i hi
  by_cases hlt : i < 8
  · obtain ⟨q1, q2⟩ := zk5 total i hlt
    have q3 : IntKind.i64.wrap (8 * (i : Int)) = 8 * (i : Int) := wrapi _ (by omega) (by omega)
    have q4 : IntKind.i64.wrap ((S : Int) - 1 - (i : Int)) = ((r.length + 1 + (d + 7 - i) : Nat) : Int) := by rw [wrapi _ (by omega) (by omega), hrl]; omega
    repeat' (first | refine zh ?_ | refine zf ?_ | refine zw rfl ?_ | refine zu ?_ | refine zr ?_ | refine ze ?_ | refine zj ?_ | (refine za (id := 11) ?_; refine zX ?_) | (refine za (id := 12) ?_; refine zb ?_; refine zd ?_) | (refine za (id := 13) ?_; refine zb ?_; refine zb ?_; refine zcX ?_; refine zb ?_; refine yv (zM (hr := q4)) (k := ?_); refine zz ?_; refine zbQ ?_; refine zdS ?_; refine zb ?_; refine zdS ?_; refine yv (zbD (hr := q1)) (k := ?_); refine yv (zaM (hr := q2)) (k := ?_); refine zC ?_; refine zH ?_) | (refine za (id := 14) ?_; refine zah ?_; refine zb ?_) | fail)
    refine zI (i + 1) ?_ ?_ ?_ ?_
    · show i + 1 ≤ 8; omega
    · show 8 - (i + 1) < 8 - i; omega
    · exact Sub.go
    · (repeat' (first | exact SubR.nil | (apply SubR.same; with_reducible (focus ((repeat (first | exact Rem.here | apply Rem.there)); done))) | (apply SubR.blk; (focus ((repeat (first | exact Rem.here | apply Rem.there)); done))) | (apply SubR.pick; (focus ((repeat (first | exact Rem.here | apply Rem.there)); done))) | rfl))
      rw [← zlh r d (8 * total) i hlt, List.map_set]; rfl
  obtain rfl : i = 8 := by omega
  have htail : r ++ 128 :: (List.replicate (d + 8 - 8) 0 ++ (be8 (8 * total)).drop (8 - 8)) = tail r total := by
    unfold tail
    rw [hrl, ← hS, show S - m - 9 = d from by omega]; simp
  rw [htail]
  have htl : (tail r total).length = S := by rw [zlt r total (by omega), hrl, hS]
  have hbl : (blocks last total).length = q + S / 64 := by rw [zfs, hq2, ← hr, htl]
  have hx0 : ∀ i, i < S / 64 → ∃ h : q + i < (blocks last total).length, (blocks last total)[q + i] = ((tail r total).drop (64 * i)).take 64 := fun i hi => by
    have h1 : q + i < (blocks last total).length := by omega
    have := zh4 last total i (by rw [hq2, ← hr, htl]; exact hi)
    rw [hq2, ← hr, List.getElem?_eq_getElem h1] at this
    exact ⟨h1, Option.some.inj this⟩
  have hS64 : S = 64 ∨ S = 128 := by split at hS <;> omega
  generalize tail r total = tl at *
  generalize blocks last total = bl at *
  -- what is handed over
  have harg : ∀ (i : Nat) (j : Res) (h1 : q + i < bl.length) (Rest : List Res), i < S / 64 → ∀ (w' : World) (X : List Res), Keep M w w' → Holds w.heap.size M (j :: [] ++ ((.blk b6 5 (tl.map Sy.v8) :: Rest) ++ X)) w' → ArgB j.own bl[q + i] [.slice (some ⟨b6, 64 * i, none⟩) 64 64] [] w' := fun i j h1 Rest hi w' X hk hh' => by
    refine ⟨b6, 64 * i, rfl, rfl, ?_, fun hb => ?_⟩
    · have hb : (Res.blk b6 5 (tl.map Sy.v8)).holds w' := hh'.all _ (by simp)
      rw [(hx0 i hi).2]
      intro k v hv
      rw [zcH hb]
      rw [List.map_take, List.map_drop, List.getElem?_take] at hv
      split at hv
      · rw [List.getElem?_drop] at hv; exact hv
      · cases hv
    · have := (List.pairwise_cons.1 hh'.apart).1 (Res.blk b6 5 (tl.map Sy.v8)) (by simp) b6 hb
      exact this rfl
  have h0 : q + 0 < bl.length := by omega
  rcases hS64 with hS1 | hS1
  · subst hS1
    have hq1 : bl.length = q + 1 := by omega
    repeat' (first | refine zh ?_ | refine zf ?_ | refine zt rfl ?_ | refine zr ?_ | refine zE ?_ | refine ze ?_ | refine zj ?_ | (refine za (id := 11) ?_; refine zX ?_) | (refine za (id := 15) ?_; refine zb ?_; refine zb ?_; refine zbn ?_; (refine ys (zb3 hY h0 hJ (hL := RemL.cons (by exact Rem.there Rem.here) rfl RemL.nil) (harg := fun w' X hk hh' => harg 0 j h0 _ (by decide) w' X hk hh')) (k := ?_); rintro _ _ ⟨y, j', rfl, rfl, hy⟩; cases y); refine zb ?_; refine zo rfl rfl rfl ?_; refine zo rfl rfl rfl ?_; refine zx ?_) | (refine zT ?_; first | refine z6 ?_ | refine zb ?_ | refine zx ?_ | fail) | fail)
    · exact end0 rfl (by exact SubR.go) ⟨j', rfl, .inr ⟨q + 1, by omega, hy⟩⟩
    · exact end0 rfl (by exact SubR.go) ⟨j', rfl, .inl (by rw [hq1]; exact hy)⟩
  · subst hS1
    have hq1 : bl.length = q + 1 + 1 := by omega
    have h1 : q + 1 < bl.length := by omega
    repeat' (first | refine zh ?_ | refine zf ?_ | refine zw rfl ?_ | refine zt rfl ?_ | refine zr ?_ | refine zE ?_ | refine ze ?_ | refine zj ?_ | (refine za (id := 11) ?_; refine zX ?_) | (refine za (id := 15) ?_; refine zb ?_; refine zb ?_; refine zbn ?_; (refine ys (zb3 hY h0 hJ (hL := RemL.cons (by exact Rem.there Rem.here) rfl RemL.nil) (harg := fun w' X hk hh' => harg 0 j h0 _ (by decide) w' X hk hh')) (k := ?_); rintro _ _ ⟨y, j', rfl, rfl, hy⟩; cases y); refine zb ?_; refine zo rfl rfl rfl ?_; refine zo rfl rfl rfl ?_; refine zx ?_) | (refine za (id := 16) ?_; refine zb ?_; refine zb ?_; refine zb ?_; refine zb ?_; refine zbn ?_) | (refine zT ?_; first | refine z6 ?_ | refine zb ?_ | refine zx ?_ | fail) | fail)
    · exact end0 rfl (by exact SubR.go) ⟨j', rfl, .inr ⟨q + 1, by omega, hy⟩⟩
    · repeat' (first | refine zf ?_ | (refine zT ?_; first | (refine ys (zb3 hY h1 hy (hL := RemL.cons (by exact Rem.here) rfl RemL.nil) (harg := fun w' X hk hh' => harg 1 j' h1 _ (by decide) w' X hk hh')) (k := ?_); rintro _ _ ⟨y, j'', rfl, rfl, hy2⟩; cases y) | fail) | fail)
      · exact end0 rfl (by exact SubR.go) ⟨j'', rfl, .inr ⟨q + 1 + 1, by omega, hy2⟩⟩
      · exact end0 rfl (by exact SubR.go) ⟨j'', rfl, .inl (by rw [hq1]; exact hy2)⟩
end Go.Proofs.YtjidkoabdmjgkaaGreatDoor
end
