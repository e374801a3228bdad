/- The library's bytes.Join of two parts or more, and the challenge of a signature. -/
import Derived.Test.YtjidkoabdmjgkaaGreatDoorXJ34
set_option linter.all false
section
namespace Go.Proofs.YtjidkoabdmjgkaaGreatDoor
open Go Go.Sy Go.Nt Go.RowKit
theorem zh7 (n : Nat) (hn : n ≤ 1000000000000) (w : World) : ∃ cs : Array Value, (callFunc 114 [Value.int .i64 n].toArray).run Tryz.prog w = .ok (.value (.slice (some ⟨w.heap.size, 0, none⟩) n cs.size)) (w.drew.drew.alloc (.cells cs 5)) ∧ n ≤ cs.size ∧ cs.size ≤ maxLen := by
  obtain ⟨cs, h1, h2, h3⟩ := Lib.run_makeNoZero (P := Tryz.prog) w #[3] 22 5 (by kernel_rfl) n (by omega)
  refine ⟨cs, ?_, h2, h3 (by unfold maxLen; omega)⟩
  show (callFunc 114 #[.int .i64 n]).run Tryz.prog w = _
  rw [run_callFunc_extern Tryz.func114 (by kernel_rfl) (by kernel_rfl) (by kernel_rfl) (e := Extern.BytealgMakeNoZero.makeNoZero #[3] #[22]) (by kernel_rfl), h1]
  rfl
attribute [local irreducible] Sy SyL SyX Sy.Fn callFunc natC rowN refC iC gP gQ gL memB safeC fixB gnum gel gsca chal
set_option maxRecDepth 10000
theorem zg1 {P l : List UInt8} {cs : List Value} {k : Nat} (hk : P.length = k) (h : k + l.length ≤ cs.length) :
    setSeg (P.map v8 ++ cs.drop k) k (l.map v8) = (P ++ l).map v8 ++ cs.drop (k + l.length) := by
  subst hk
  unfold setSeg
  rw [List.take_left' (List.length_map _), List.length_map, List.map_append, ← List.drop_drop, List.drop_left' (List.length_map _), List.drop_drop]
theorem zh1 {a : Option Addr} {l s : Nat} : movA a l l s = a := if_pos rfl
def HeadOf (l : List UInt8) (v : Value) (R : List Res) : Prop := ∃ b J, v = .slice (some ⟨b, 0, none⟩) l.length l.length ∧ R = [.blk b 5 (l.map v8 ++ J)]
set_option maxHeartbeats 1000000 in
theorem zmF (a : Option Addr) (m d : Nat) (xs : List Bs) (w : World) (hm : xs.length = m) (h2 : 2 ≤ m) (hmb : m < 1000) (hmd : m ≤ d) (hsx : SlA w a (xs.map Bs.val)) (hok : ∀ s ∈ xs, s.ok w) (hb : (Bs.cat xs).length < 1000000000) :
    Sy.Fn Tryz.prog 79 [.slice a m d, .slice none 0 0] w No (HeadOf (Bs.cat xs)) := by
  refine zq Tryz.func79 rfl Tryz.ntmps79 (by simp) Holds.nil ?_
  have hm0 : decide ((m : Int) = 0) = false := decide_eq_false (by omega)
  have hm1 : decide ((m : Int) = 1) = false := decide_eq_false (by omega)
  have hle : ∀ i, (Bs.cat (xs.take i)).length ≤ (Bs.cat xs).length := fun i => by
    have : Bs.cat xs = Bs.cat (xs.take i) ++ Bs.cat (xs.drop i) := by unfold Bs.cat; rw [← List.flatMap_append, List.take_append_drop]
    rw [this, List.length_append]; omega
  have hsuc := fun i (h : i < m) => Bs.cat_succ xs i (by omega)
  obtain ⟨bl, ol, rfl, hcell⟩ := Bs.get hsx (i := 0) (by omega)
  have hci := fun j (h : j < m) => hcell j (by omega)
  have hoki := fun j (h : j < m) => hok xs[j] (List.getElem_mem (by omega))
  repeat' (first | refine zh ?_ | refine zf ?_ | refine zt rfl ?_ | refine zu ?_ | refine zr ?_ | refine ze ?_ | refine zj ?_ | (refine za (id := 0) ?_; refine zd ?_) | (refine za (id := 1) ?_; refine zb ?_; refine zA ?_; refine yv (z3 (hr := hm0)) (k := ?_)) | (refine za (id := 3) ?_; refine zb ?_; refine zA ?_; refine yv (z3 (hr := hm1)) (k := ?_)) | (refine za (id := 5) ?_; refine zd ?_) | (refine za (id := 6) ?_; refine zb ?_; refine zA ?_; refine z6 ?_) | (refine za (id := 10) ?_; refine zb ?_; refine zA ?_; refine zb ?_) | fail)
  refine zQ (γ := Nat) (fun i => [(0, .slice (some ⟨bl, ol, none⟩) m d), (1, .slice none 0 0), (42, .slice (some ⟨bl, ol, none⟩) m d), (43, .int .i64 m), (44, .int .i64 i), (5, .int .i64 ((Bs.cat (xs.take i)).length : Nat))]) (fun _ => []) (fun i => i ≤ m) (fun i => m - i) 0 (Nat.zero_le _) ?_ ?_ ?_
  · exact Sub.go
  · exact SubR.go
  intro i hi
  by_cases hlt : i < m
  · have hc := hci i hlt
    have ho := hoki i hlt
    have hs := hsuc i hlt
    have hl1 := hle (i + 1)
    rw [hs, List.length_append] at hl1
    have hlen : xs[i].l.length = xs[i].n := ho.len
    rw [hlen] at hl1
    have hT : ((Bs.cat (xs.take (i + 1))).length : Int) = ((Bs.cat (xs.take i)).length : Int) + (xs[i].n : Int) := by rw [hs, List.length_append, hlen, Int.natCast_add]
    obtain ⟨T', hT'⟩ : ∃ t, t = (Bs.cat (xs.take (i + 1))).length := ⟨_, rfl⟩
    rw [← hT'] at hT
    generalize (Bs.cat (xs.take i)).length = T at *
    generalize (Bs.cat xs).length = tot at *
    generalize xs[i] = s at *
    obtain ⟨sa, sn, sc, sl⟩ := s
    dsimp only at *
    have g1 : decide ((i : Int) < (m : Int)) = true := decide_eq_true (by omega)
    have g2 : IntKind.i64.wrap (9223372036854775807 - (T : Int)) = 9223372036854775807 - (T : Int) := IntWalk.i64_in _ (by omega)
    have g3 : decide (9223372036854775807 - (T : Int) < (sn : Int)) = false := decide_eq_false (by omega)
    have g4 : IntKind.i64.wrap ((T : Int) + (sn : Int)) = ((T' : Nat) : Int) := by rw [IntWalk.i64_in _ (by omega)]; omega
    have g5 : IntKind.i64.wrap ((i : Int) + 1) = ((i + 1 : Nat) : Int) := by rw [IntWalk.i64_in _ (by omega)]; omega
    repeat' (first | refine zh ?_ | refine zf ?_ | refine zw rfl ?_ | refine zt rfl ?_ | refine zu ?_ | refine zr ?_ | refine ze ?_ | refine zj ?_ | (refine za (id := 11) ?_; refine yv (zS (hr := g1)) (k := ?_)) | (refine za (id := 12) ?_; refine yv (zaJ (j := i)) (k := ?_); refine yv (zN (hv := hc)) (k := ?_); refine zd ?_) | (refine za (id := 13) ?_; refine zb ?_; refine zA ?_; refine zb ?_; refine yv (zM (hr := g2)) (k := ?_); refine yv (zae (hr := g3)) (k := ?_)) | (refine za (id := 15) ?_; refine zb ?_; refine zb ?_; refine zA ?_; refine yv (zK (hr := g4)) (k := ?_); refine zd ?_) | (refine za (id := 16) ?_; refine yv (zK (hr := g5)) (k := ?_); refine zb ?_) | fail)
    refine zI (i + 1) hlt ?_ ?_ ?_
    · show m - (i + 1) < m - i; omega
    · rw [← hT']; exact Sub.go
    · exact SubR.go
  obtain rfl : i = m := by omega
  have hcat : Bs.cat xs = Bs.cat (xs.take i) := by rw [List.take_of_length_le (by omega)]
  rw [← hcat]
  have g1 : decide ((i : Int) < (i : Int)) = false := decide_eq_false (by omega)
  have hN : (Bs.cat xs).length ≤ 1000000000000 := by omega
  have hcall := fun w => zh7 (Bs.cat xs).length hN w
  have hc0 := hci 0 (by omega)
  have ho0 := hoki 0 (by omega)
  have h0c : Bs.cat (xs.take 1) = xs[0].l := by
    have := hsuc 0 (by omega)
    rw [this, List.take_zero]; rfl
  have hle1 := hle 1
  rw [h0c, ho0.len] at hle1
  have hl0 := ho0.len
  obtain ⟨tot, htot⟩ : ∃ t, t = (Bs.cat xs).length := ⟨_, rfl⟩
  have hsl0 := ho0.sla
  rw [Nat.add_zero] at hc0
  repeat' (first | refine zh ?_ | refine zf ?_ | refine zt rfl ?_ | refine zE ?_ | refine ze ?_ | refine zj ?_ | (refine za (id := 11) ?_; refine yv (zS (hr := g1)) (k := ?_)) | (refine za (id := 17) ?_; refine zb ?_; (refine ys (zkf (n := (Bs.cat xs).length) (hr := hcall)) (k := ?_); rintro _ _ ⟨b, cs, rfl, hcs1, hcs2, rfl⟩); refine zb ?_; refine zb ?_; refine zbn ?_; refine zd ?_) | fail)
  rw [← htot] at hcs1 hle1 ⊢
  have g2 : IntKind.i64.wrap ((i : Int) - 1) = ((i - 1 : Nat) : Int) := by rw [IntWalk.i64_in _ (by omega)]; omega
  have hset0 := zg1 (P := []) (l := xs[0].l) (cs := cs) (k := 0) rfl (by omega)
  rw [List.map_nil, List.nil_append, List.nil_append, List.drop_zero, hl0, Nat.zero_add] at hset0
  obtain ⟨s, hs⟩ : ∃ s, s = xs[0] := ⟨_, rfl⟩
  rw [← hs] at hc0 hl0 hsl0 hset0 hle1 h0c
  obtain ⟨sa, sn, sc, sl⟩ := s
  dsimp only at hc0 hl0 hsl0 hset0 hle1 h0c
  clear hs ho0
  have hmv : movA (some ⟨bl, ol, none⟩) 1 d 1 = some ⟨bl, ol + 1, none⟩ := zdJ (by omega)
  repeat' (first | refine zh ?_ | refine zf ?_ | refine zu ?_ | refine ze ?_ | refine zj ?_ | (refine za (id := 18) ?_; refine zb ?_; refine zb ?_; refine zC ?_; refine yv (zN (hv := hc0)) (k := ?_); refine yv (zcI (B := sl.map v8) (k := sn) (hr := Rd.old hsl0 (fun _ _ h => h)) (hk := by rw [List.length_map, hl0]) (hset := hset0)) (k := ?_); refine zd ?_) | (refine za (id := 19) ?_; refine zb ?_; refine yv (zaL (ha := hmv)) (k := ?_); refine zA ?_; refine zb ?_) | fail)
  have hset1 : setSeg ((sl.map v8) ++ cs.drop sn) 0 [] = sl.map v8 ++ cs.drop sn := by simp [setSeg]
  refine zQ (γ := Nat) (fun j => [(1, .slice none 0 0), (8, .slice (some ⟨b, 0, none⟩) tot tot), (70, .slice (some ⟨bl, ol + 1, none⟩) (i - 1) (d - 1)), (71, .int .i64 ((i - 1 : Nat) : Int)), (72, .int .i64 j), (9, .int .i64 ((Bs.cat (xs.take (j + 1))).length : Nat))])
    (fun j => [.blk b 5 ((Bs.cat (xs.take (j + 1))).map v8 ++ cs.drop (Bs.cat (xs.take (j + 1))).length)]) (fun j => j ≤ i - 1) (fun j => i - 1 - j) 0 (Nat.zero_le _) ?_ ?_ ?_
  · rw [h0c, hl0]; exact Sub.go
  · rw [h0c, hl0]; exact SubR.go
  intro j hj
  by_cases hlt : j < i - 1
  · have hc := hci (j + 1) (by omega)
    rw [show ol + (j + 1) = ol + 1 + j by omega] at hc
    have ho := hoki (j + 1) (by omega)
    have hs := hsuc (j + 1) (by omega)
    have hl1 := hle (j + 1 + 1)
    rw [hs, List.length_append, ← htot] at hl1
    have hlen : xs[j + 1].l.length = xs[j + 1].n := ho.len
    rw [hlen] at hl1
    have hsl := ho.sla
    have hT : ((Bs.cat (xs.take (j + 1 + 1))).length : Int) = ((Bs.cat (xs.take (j + 1))).length : Int) + (xs[j + 1].n : Int) := by rw [hs, List.length_append, hlen, Int.natCast_add]
    have hset := zg1 (P := Bs.cat (xs.take (j + 1))) (l := xs[j + 1].l) (cs := cs) (k := (Bs.cat (xs.take (j + 1))).length) rfl (by omega)
    rw [← hs, hlen] at hset
    have hT2 : (Bs.cat (xs.take (j + 1))).length + xs[j + 1].n = (Bs.cat (xs.take (j + 1 + 1))).length := by rw [hs, List.length_append, hlen]
    rw [hT2] at hset
    have hCl : ((Bs.cat (xs.take (j + 1))).map v8 ++ cs.drop (Bs.cat (xs.take (j + 1))).length).length = cs.length := by rw [List.length_append, List.length_map, List.length_drop]; omega
    have hz : setSeg ((Bs.cat (xs.take (j + 1))).map v8 ++ cs.drop (Bs.cat (xs.take (j + 1))).length) 0 [] = (Bs.cat (xs.take (j + 1))).map v8 ++ cs.drop (Bs.cat (xs.take (j + 1))).length := by simp [setSeg]
    have hz' : ∀ k, setSeg ((Bs.cat (xs.take (j + 1))).map v8 ++ cs.drop (Bs.cat (xs.take (j + 1))).length) k [] = (Bs.cat (xs.take (j + 1))).map v8 ++ cs.drop (Bs.cat (xs.take (j + 1))).length := fun k => by simp [setSeg]
    have hsame : xs[j + 1].n = 0 → (Bs.cat (xs.take (j + 1 + 1))).map v8 ++ cs.drop (Bs.cat (xs.take (j + 1 + 1))).length = (Bs.cat (xs.take (j + 1))).map v8 ++ cs.drop (Bs.cat (xs.take (j + 1))).length := by
      intro h
      have e : xs[j + 1].l = [] := List.eq_nil_of_length_eq_zero (by omega)
      rw [hs, e, List.append_nil]
    obtain ⟨C', hC'⟩ : ∃ c, c = (Bs.cat (xs.take (j + 1 + 1))).map v8 ++ cs.drop (Bs.cat (xs.take (j + 1 + 1))).length := ⟨_, rfl⟩
    rw [← hC'] at hset hsame
    generalize (Bs.cat (xs.take (j + 1))).map v8 ++ cs.drop (Bs.cat (xs.take (j + 1))).length = C at *
    obtain ⟨T', hT'⟩ : ∃ t, t = (Bs.cat (xs.take (j + 1 + 1))).length := ⟨_, rfl⟩
    rw [← hT'] at hT
    generalize (Bs.cat (xs.take (j + 1))).length = T at *
    generalize xs[j + 1] = s at *
    obtain ⟨sa, sn', sc, sl'⟩ := s
    dsimp only at *
    have g1 : decide ((j : Int) < ((i - 1 : Nat) : Int)) = true := decide_eq_true (by omega)
    have g3 : IntKind.i64.wrap ((T : Int) + 0) = (T : Int) := by rw [IntWalk.i64_in _ (by omega)]; omega
    have g4 : IntKind.i64.wrap ((T : Int) + (sn' : Int)) = ((T' : Nat) : Int) := by rw [IntWalk.i64_in _ (by omega)]; omega
    have g5 : IntKind.i64.wrap ((j : Int) + 1) = ((j + 1 : Nat) : Int) := by rw [IntWalk.i64_in _ (by omega)]; omega
    by_cases hfull : T < tot
    · repeat' (first | refine zh ?_ | refine zf ?_ | refine zw rfl ?_ | refine zu ?_ | refine zr ?_ | refine ze ?_ | refine zj ?_ | (refine za (id := 20) ?_; refine yv (zS (hr := g1)) (k := ?_)) | (refine za (id := 21) ?_; refine yv (zaJ (j := j)) (k := ?_); refine yv (zN (hv := hc)) (k := ?_); refine zd ?_) | (refine za (id := 22) ?_; refine zb ?_; refine zb ?_; refine zb ?_; refine zbn ?_; refine zb ?_; refine yv (zcI (B := []) (k := 0) (hr := Rd.nil) (hk := rfl) (hone := rfl) (hset := hz' T) (hn := (Nat.zero_min _).symm)) (k := ?_); refine yv (zK (hr := g3)) (k := ?_); refine zd ?_) | (refine za (id := 23) ?_; refine zb ?_; refine zb ?_; refine zb ?_; refine zbn ?_; refine zb ?_; refine yv (zcI (B := sl'.map v8) (k := sn') (hr := Rd.old hsl (fun _ _ h => h)) (hk := by rw [List.length_map, hlen]) (hset := hset)) (k := ?_); refine yv (zK (hr := g4)) (k := ?_); refine zd ?_) | (refine za (id := 24) ?_; refine yv (zK (hr := g5)) (k := ?_); refine zb ?_) | fail)
      refine zI (j + 1) ?_ ?_ ?_ ?_
      · show j + 1 ≤ i - 1; omega
      · show i - 1 - (j + 1) < i - 1 - j; omega
      · rw [← hT']; exact Sub.go
      · rw [← hC']; exact SubR.go
    · have hn0 : sn' = 0 := by omega
      have hTT : T = tot := by omega
      have hC := hsame hn0
      subst hn0
      subst hTT
      repeat' (first | refine zh ?_ | refine zf ?_ | refine zw rfl ?_ | refine zu ?_ | refine zr ?_ | refine ze ?_ | refine zj ?_ | (refine za (id := 20) ?_; refine yv (zS (hr := g1)) (k := ?_)) | (refine za (id := 21) ?_; refine yv (zaJ (j := j)) (k := ?_); refine yv (zN (hv := hc)) (k := ?_); refine zd ?_) | (refine za (id := 22) ?_; refine zb ?_; refine zb ?_; refine zb ?_; refine yv (zaL (ha := zh1)) (k := ?_); refine zb ?_; refine yv (zcI (B := []) (k := 0) (hr := Rd.nil) (hk := rfl) (hone := rfl) (hset := hz' 0) (hn := by simp)) (k := ?_); refine yv (zK (hr := g3)) (k := ?_); refine zd ?_) | (refine za (id := 23) ?_; refine zb ?_; refine zb ?_; refine zb ?_; refine yv (zaL (ha := zh1)) (k := ?_); refine zb ?_; refine yv (zcI (B := []) (k := 0) (hr := Rd.nil) (hk := rfl) (hone := rfl) (hset := hz' 0) (hn := by simp)) (k := ?_); refine yv (zK (hr := g3)) (k := ?_); refine zd ?_) | (refine za (id := 24) ?_; refine yv (zK (hr := g5)) (k := ?_); refine zb ?_) | fail)
      refine zI (j + 1) ?_ ?_ ?_ ?_
      · show j + 1 ≤ i - 1; omega
      · show i - 1 - (j + 1) < i - 1 - j; omega
      · rw [← hT', show T' = T by omega]; exact Sub.go
      · rw [← hC', hC]; exact SubR.go
  obtain rfl : j = i - 1 := by omega
  have g3 : decide (((i - 1 : Nat) : Int) < ((i - 1 : Nat) : Int)) = false := decide_eq_false (by omega)
  rw [show i - 1 + 1 = i by omega, ← hcat, ← htot]
  repeat' (first | refine zh ?_ | refine zf ?_ | refine zt rfl ?_ | refine zp ?_ | refine zE ?_ | refine ze ?_ | refine zj ?_ | (refine za (id := 20) ?_; refine yv (zS (hr := g3)) (k := ?_)) | (refine za (id := 25) ?_; refine zb ?_; refine zd ?_) | fail)
  exact ret1 rfl (resTmp rfl) (by exact SubR.go) ⟨b, _, by rw [← htot], rfl⟩
theorem zl6 (i : Nat) (h : i ≤ 4) : IntKind.u8.wrap (i : Int) = Wd.n8 (UInt8.ofNat i) := by
  rw [IntWalk.u8_in _ (by omega)]
  rcases (show i = 0 ∨ i = 1 ∨ i = 2 ∨ i = 3 ∨ i = 4 by omega) with rfl | rfl | rfl | rfl | rfl <;> rfl
end Go.Proofs.YtjidkoabdmjgkaaGreatDoor
end
