/- The ladder: as many copies of a value as a number says, by doubling and adding. -/
import Derived.Test.YtaeddmcoanefhaaGreatDoorVJ20
import Derived.Test.YtaeddmcoanefhaaGreatDoorVJ13
import Derived.Test.YtaeddmcoanefhaaGreatDoorVJ06
import Derived.Test.YtaeddmcoanefhaaGreatDoorVJ16
import Derived.Test.YtaeddmcoanefhaaGreatDoorVJ15
import Derived.Test.YtaeddmcoanefhaaGreatDoorVJ02
import Derived.Lib.AppendZerosOnto
set_option linter.all false
section
namespace Go.Nt
open Go Go.Sy
theorem lad_step {x k p q : Nat} (hk : k < (ones x).length) (hI : x - left k x = q * 2 ^ p) (hp : left k x < 2 ^ p) :
    (ones x)[k] < p ∧ left (k + 1) x < 2 ^ (ones x)[k] ∧ x - left (k + 1) x = (q * 2 ^ (p - (ones x)[k]) + 1) * 2 ^ (ones x)[k] := by
  obtain ⟨hpos, hxk⟩ := left_get hk
  obtain ⟨hm0, hm1, hm2⟩ := top_le _ hpos
  have hls := left_succ k x
  have hle := left_le k x (by omega)
  rw [hxk]
  generalize left k x = y at *
  generalize nd 2 y = m at *
  obtain ⟨i, rfl⟩ : ∃ i, m = i + 1 := ⟨m - 1, by omega⟩
  rw [Nat.add_sub_cancel] at *
  rw [Nat.pow_succ] at hm2
  have hip : i < p := by
    rcases Nat.lt_or_ge i p with h | h
    · exact h
    · have := Nat.pow_le_pow_right (n := 2) (by decide) h; omega
  refine ⟨hip, by rw [hls]; omega, ?_⟩
  have h1 : q * 2 ^ p = q * 2 ^ (p - i) * 2 ^ i := by rw [Nat.mul_assoc, ← Nat.pow_add, show p - i + i = p by omega]
  rw [Nat.add_mul, Nat.one_mul, ← h1, hls]
  omega
end Go.Nt
namespace Go.Sy
open Go
theorem Holds.both {B0 : Nat} {M : Nat → Prop} {L X : List Res} {w : World} {b1 T1 b2 T2 : Nat} {C1 C2 : List Value} (hh : Holds B0 M (L ++ X) w) (h1 : Has L (.blk b1 T1 C1)) (h2 : Has L (.blk b2 T2 C2)) (hne : Res.blk b1 T1 C1 ≠ .blk b2 T2 C2) :
    Holds w.heap.size (fun x => x = b1 ∨ x = b2) [.blk b1 T1 C1, .blk b2 T2 C2] w := by
  have ha := hh.two (Has.append h1) (Has.append h2) hne
  refine ⟨fun x hx => ?_, ?_, fun x hx y hy => ?_⟩
  · rcases List.mem_cons.1 hx with rfl | hx
    · exact hh.has (Has.append h1)
    · rw [List.mem_singleton.1 hx]; exact hh.has (Has.append h2)
  · exact List.pairwise_cons.2 ⟨fun x hx => by rw [List.mem_singleton.1 hx]; exact ha, List.pairwise_singleton _ _⟩
  · rcases List.mem_cons.1 hx with rfl | hx
    · exact .inr (.inl (Eq.symm hy))
    · rw [List.mem_singleton.1 hx] at hy; exact .inr (.inr (Eq.symm hy))
theorem Holds.ne {B0 : Nat} {M : Nat → Prop} {L X : List Res} {w : World} {b1 T1 b2 T2 : Nat} {C1 C2 : List Value} (hh : Holds B0 M (L ++ X) w) (h1 : Has L (.blk b1 T1 C1)) (h2 : Has L (.blk b2 T2 C2)) (hne : Res.blk b1 T1 C1 ≠ .blk b2 T2 C2) : b1 ≠ b2 := fun h =>
  hh.two (Has.append h1) (Has.append h2) hne b1 rfl h.symm
theorem blk_neT {b T b' T' : Nat} {C C' : List Value} (h : T ≠ T') : Res.blk b T C ≠ .blk b' T' C' := fun e => h (by injection e)
end Go.Sy
namespace Go.Proofs.YtaeddmcoanefhaaGreatDoor
open Go Go.Sy Go.Nt Go.RowKit
attribute [local irreducible] Sy SyL SyX Sy.Fn callFunc natC rowN
set_option maxRecDepth 10000
theorem descend_fn (bp bd br p q : Nat) (to : Nat) (V : Nat → Nat) (fd : Nat) (sd cd : List Value) (w : World) (hp : p ≤ 4000) (hto : to ≤ p)
    (hen : ∀ args w, (callFunc fd args).run Tryz.prog w = .ok (.enter fd args) w) (hD : ∀ k w, Sy.Fn Tryz.prog fd (sd ++ [natV (V k)] ++ cd) w No (Gives (natV (V (2 * k)))))
    (hH : Holds w.heap.size (fun x => x = bp ∨ x = br) [.blk bp 3 [.int .i64 p], .blk br 44 (natC (V q))] w) (hc : w.cell? ⟨bd, 0, none⟩ = some (.func (.func fd) sd.toArray cd.toArray)) (hn : ¬ (bd = bp ∨ bd = br)) :
    Sy.Fn Tryz.prog 134 [.int .i64 to, .pointer (some ⟨bp, 0, none⟩), .pointer (some ⟨bd, 0, none⟩), .pointer (some ⟨br, 0, none⟩)] w (fun x => x = bp ∨ x = br)
      (fun _ R => R = [.blk bp 3 [.int .i64 to], .blk br 44 (natC (V (q * 2 ^ (p - to))))]) := by
  refine fn_enter Tryz.func134 rfl Tryz.ntmps134 (by simp) hH ?_
  repeat' (first | refine sy_block ?_ | fail)
  refine sy_loop (γ := Nat × Nat) (fun _ => [(0, .int .i64 to), (1, .pointer (some ⟨bp, 0, none⟩)), (2, .pointer (some ⟨bd, 0, none⟩)), (3, .pointer (some ⟨br, 0, none⟩))])
    (fun g => [.blk bp 3 [.int .i64 g.1], .blk br 44 (natC (V g.2))])
    (fun g => to ≤ g.1 ∧ g.1 ≤ 4000 ∧ g.2 * 2 ^ (g.1 - to) = q * 2 ^ (p - to)) (fun g => g.1) (p, q) ⟨hto, hp, rfl⟩ ?_ ?_ ?_
  · exact Sub.go
  · exact SubR.go
  rintro ⟨p', q'⟩ ⟨h1, h2, h3⟩
  dsimp only at h1 h2 h3 ⊢
  rcases Nat.lt_or_ge to p' with h | h
  · have hgt : decide ((p' : Int) > (to : Int)) = true := decide_eq_true (by omega)
    have hsub : IntKind.i64.wrap ((p' : Int) - 1) = ((p' - 1 : Nat) : Int) := by rw [IntWalk.i64_in _ (by omega)]; omega
    have hlv := natC_len (V q')
    have hlw := natC_len (V (2 * q'))
    have hD := hD q'
    have h3 : 2 * q' * 2 ^ (p' - 1 - to) = q * 2 ^ (p - to) := by
      rw [← h3, show p' - to = (p' - 1 - to) + 1 by omega, Nat.pow_succ]; ac_rfl
    generalize hV : V (2 * q') = v' at *
    generalize V q' = v at *
    repeat' (first | refine sy_seqC ?_ | refine syl_nil ?_ | refine sy_if_t rfl ?_ | refine sy_block ?_ | refine sy_skip ?_ | refine syx_then ?_ | refine syx_go ?_ | (refine sy_region (id := 0) ?_; refine y_load ?_; refine y_move ?_; refine yv (op_gtr (hr := hgt)) (k := ?_)) | (refine sy_region (id := 2) ?_; refine yv (op_load_old (hv := hc) (hn := hn)) (k := ?_); refine yv (op_loads (B := natC v)) (k := ?_); refine yv (op_callFV (he := hen) (hc := fun w' X hk hh => hD w')) (k := ?_); refine yn (op_storeNat (n := v')) (k := ?_)) | (refine sy_region (id := 1) ?_; refine y_load ?_; refine yv (op_sub (hr := hsub)) (k := ?_); refine y_store ?_) | fail)
    refine syx_back (p' - 1, 2 * q') ⟨by show to ≤ p' - 1; omega, by show p' - 1 ≤ _; omega, h3⟩ ?_ ?_ ?_
    · show p' - 1 < p'; omega
    · exact Sub.go
    · show SubR [.blk bp 3 [.int .i64 ((p' - 1 : Nat) : Int)], .blk br 44 (natC (V (2 * q')))] _
      rw [hV]
      exact SubR.go
  · obtain rfl : p' = to := by omega
    have hgt : decide ((p' : Int) > (p' : Int)) = false := decide_eq_false (by omega)
    rw [Nat.sub_self, Nat.pow_zero, Nat.mul_one] at h3
    rw [← h3]
    repeat' (first | refine sy_seqC ?_ | refine syl_nil ?_ | refine sy_if_f rfl ?_ | refine sy_exit ?_ | refine syx_then ?_ | refine syx_go ?_ | refine syx_then_exit ?_ | refine syx_in_here ?_ | (refine sy_region (id := 0) ?_; refine y_load ?_; refine y_move ?_; refine yv (op_gtr (hr := hgt)) (k := ?_)) | fail)
    exact end0 rfl (by exact SubR.go) rfl
set_option maxHeartbeats 1000000 in
theorem ladder_fn (x v : Nat) (V : Nat → Nat) (fd fa : Nat) (sd cd sa ca : List Value) (w : World) (hx : x < 18446744073709551616 ^ 16)
    (hend : ∀ args w, (callFunc fd args).run Tryz.prog w = .ok (.enter fd args) w) (hena : ∀ args w, (callFunc fa args).run Tryz.prog w = .ok (.enter fa args) w)
    (hD : ∀ k w, Sy.Fn Tryz.prog fd (sd ++ [natV (V k)] ++ cd) w No (Gives (natV (V (2 * k))))) (hA : ∀ k w, Sy.Fn Tryz.prog fa (sa ++ [natV (V k), natV v] ++ ca) w No (Gives (natV (V (k + 1))))) :
    Sy.Fn Tryz.prog 119 [natV x, natV (V 0), natV v, .func (.func fd) sd.toArray cd.toArray, .func (.func fa) sa.toArray ca.toArray] w No (Gives (natV (V x))) := by
  refine fn_enter Tryz.func119 rfl Tryz.ntmps119 (by simp) Holds.nil ?_
  have hlx := natC_len x
  have hlv := natC_len v
  have hl0 := natC_len (V 0)
  have hbl := fun w' => bitLen_fn x w' hx
  have hx2 := nd_lt 2 x (by decide)
  have hxn := nd2_W hx
  generalize hv0 : V 0 = v0 at *
  generalize nd 2 x = p0 at *
  repeat' (first | refine sy_seqC ?_ | refine syl_nil ?_ | refine syx_then ?_ | refine syx_go ?_ | (refine sy_region (id := 0) ?_; (refine y_new ?_; intro _); (refine y_new ?_; intro _); (refine y_new ?_; intro _); (refine y_new ?_; intro _); (refine y_new ?_; intro _); (refine y_new ?_; intro _)) | fail)
  rename_i b5 b6 b7 b8 b9 b10
  refine sy_drawA (id := 1) mixed ?_
  (refine sye_part 5 5 [[], [], [1], [], [], [0, 1, 2, 3, 4], [0, 1, 2, 3, 4, 5]] [[], [], [], [], [], [], []] none rfl ?_ ?_ ?_; kernel_rfl; kernel_rfl; refine dcE (fun _ _ => op_loads (B := natC v0)) (k := ?_); refine dcE (fun _ _ => op_loads (B := natC x)) (k := ?_); refine dcE (fun _ _ => op_callV (hc := fun _ _ _ _ => (hbl _))) (k := ?_); try refine dh_0nE (h := ?_))
  refine dh_rE (R := fun _ => PtrOf 44 (List.replicate 16 (.int .u64 0))) (fun _ _ _ => rfl) (fun ρ hρ => OpT.mono op_alloc fun v L' h => ?_) (h := ?_)
  · obtain ⟨b, rfl, rfl⟩ := h
    exact ⟨[_], rfl, b, rfl, rfl⟩
  refine dh_rE (R := fun _ => PtrOf 3 [.int .i64 0]) (fun _ _ _ => rfl) (fun ρ hρ => OpT.mono op_alloc fun v L' h => ?_) (h := ?_)
  · obtain ⟨b, rfl, rfl⟩ := h
    exact ⟨[_], rfl, b, rfl, rfl⟩
  refine dh_0E (h := ?_)
  rintro ρ ⟨⟨b12, g1, g2⟩, ⟨b11, g3, g4⟩, -⟩
  (refine sya_list [[], [], [1], [], [], [0, 1, 2, 3, 4], [0, 1, 2, 3, 4, 5]] ?_ ?_; kernel_rfl)
  refine SyL.weaken (fr' := [(11, .pointer (some ⟨b11, 0, none⟩)), (12, .pointer (some ⟨b12, 0, none⟩)), (15, natV v0), (17, .int .i64 p0), (5, .pointer (some ⟨b5, 0, none⟩)), (7, .pointer (some ⟨b7, 0, none⟩)), (8, .pointer (some ⟨b8, 0, none⟩)), (9, .pointer (some ⟨b9, 0, none⟩)), (10, .pointer (some ⟨b10, 0, none⟩))])
    (L' := [.blk b11 44 (List.replicate 16 (.int .u64 0)), .blk b12 3 [.int .i64 0], .blk b5 44 (natC x), .blk b7 44 (natC v), .blk b8 67 [.func (.func fd) sd.toArray cd.toArray], .blk b9 52 [.func (.func fa) sa.toArray ca.toArray], .blk b10 44 (List.replicate 16 (.int .u64 0))]) ?_ ?_ ?_
  rotate_left
  · (repeat' (first | exact Sub.nil | refine Sub.cons rfl ?_ ?_ | rfl))
    · exact g3
    · exact g1
  · show SubR _ ((ρ 4).2 ++ ((ρ 3).2 ++ _))
    rw [g2, g4]
    exact SubR.go2
  repeat' (first | refine sy_seqC ?_ | refine syl_nil ?_ | refine syx_then ?_ | refine syx_go ?_ | (refine sy_region (id := 2) ?_; refine y_makeFunc ?_; (refine y_new ?_; intro _); refine y_store ?_) | (refine sy_region (id := 3) ?_; refine yv (op_loads (B := natC x)) (k := ?_)) | (refine syl_id ?_; first | refine yn (op_storeNat (n := v0)) (k := ?_) | refine y_store ?_ | fail) | fail)
  rename_i b13
  refine ys (op_call0 (hc := fun w' X hk hh => ones_fn x w')) (k := ?_)
  rintro _ _ ⟨R, rfl, b, rfl, rfl⟩
  repeat' (first | refine syl_nil ?_ | refine sy_block ?_ | refine syx_then ?_ | refine syx_go ?_ | fail)
  rw [← hv0]
  refine sy_range (γ := Nat × Nat) (xs := ones x) (Arg := ArgN) entered_outer rfl (en rfl) rfl (fun k s => x - left k x = s.2 * 2 ^ s.1 ∧ left k x < 2 ^ s.1 ∧ s.1 ≤ 1024) (fun _ _ _ => False)
    (fun s => [.blk b11 44 (natC (V s.2)), .blk b12 3 [.int .i64 s.1], .blk b13 183 [.func (.func 134) #[] #[.pointer (some ⟨b12, 0, none⟩), .pointer (some ⟨b8, 0, none⟩), .pointer (some ⟨b11, 0, none⟩)]], .blk b7 44 (natC v), .blk b8 67 [.func (.func fd) sd.toArray cd.toArray], .blk b9 52 [.func (.func fa) sa.toArray ca.toArray]])
    [.blk b 44 (natC x)] [.blk b5 44 (natC x), .blk b10 44 (List.replicate 16 (.int .u64 0))] (p0, 0) ⟨by rw [show left 0 x = x from rfl, Nat.sub_self, Nat.zero_mul], hx2, hxn⟩ ?_ ?_ ?_ ?_ ?_ ?_
  · ((try simp only [List.cons_append, List.nil_append, List.append_nil]); (repeat' (first | exact List.Perm.nil | exact List.Perm.refl _ | (apply permr; with_reducible (focus ((repeat (first | exact Rem.here | apply Rem.there)); done))) | (apply permr; (focus ((repeat (first | exact Rem.here | apply Rem.there)); done))))))
  · exact fun w' Mi X hk hm _ _ => ones1_it b x w' Mi hx
  · rintro O x vs RA w' ⟨rfl, _⟩; rfl
  · rintro lp k hk ⟨p, q⟩ vs RA W rec hrec ⟨hI, hp, hp1⟩ ⟨rfl, rfl⟩ hkW hmine
    dsimp only at hI hp hp1 ⊢
    clear hmine
    obtain ⟨hi, hl2, hI2⟩ := lad_step hk hI hp
    generalize (ones x)[k] = i at *
    have hlq := natC_len (V (q * 2 ^ (p - i)))
    have hlq1 := natC_len (V (q * 2 ^ (p - i) + 1))
    have hA := hA (q * 2 ^ (p - i))
    repeat' (first | refine sy_seqC ?_ | refine syl_nil ?_ | refine sy_block ?_ | refine syx_then ?_ | (apply syx_begin; (focus ((repeat (first | exact Rem.here | apply Rem.there)); done)); assumption) | (refine sy_region (id := 4) ?_; refine y_assign ?_) | (refine sy_region (id := 5) ?_; refine y_load ?_; refine y_move ?_) | fail)
    refine ys (op_call (vs := [.int .i64 i]) (cap := [.pointer (some ⟨b12, 0, none⟩), .pointer (some ⟨b8, 0, none⟩), .pointer (some ⟨b11, 0, none⟩)]) (C := [.blk b12 3 [.int .i64 p], .blk b11 44 (natC (V q))]) (M' := fun x => x = b12 ∨ x = b11)
      (hC := RemL.cons (by repeat (first | exact Rem.here | apply Rem.there)) rfl (RemL.cons (by repeat (first | exact Rem.here | apply Rem.there)) rfl RemL.nil)) (hM := fun b hb => by
        rcases hb with rfl | rfl
        · exact ⟨_, List.mem_cons_self .., rfl⟩
        · exact ⟨_, List.mem_cons_of_mem _ (List.mem_singleton.2 rfl), rfl⟩)
      (hc := fun w' X hk hh => descend_fn b12 b8 b11 p q i V fd sd cd w' (by omega) (by omega) hend hD (hh.both Has.go Has.go (blk_neT (by decide))) (blk_range (hh.has (r := .blk b8 67 [.func (.func fd) sd.toArray cd.toArray]) (by exact Has.append Has.go)) Seg.all 0 _ rfl)
        (fun e => e.elim (hh.ne (C1 := [.func (.func fd) sd.toArray cd.toArray]) (T1 := 67) (C2 := [.int .i64 p]) (T2 := 3) Has.go Has.go (blk_neT (by decide))) (hh.ne (C1 := [.func (.func fd) sd.toArray cd.toArray]) (T1 := 67) (C2 := natC (V q)) (T2 := 44) Has.go Has.go (blk_neT (by decide)))))) (k := ?_)
    rintro _ _ ⟨R, rfl, rfl⟩
    repeat' (first | refine syl_nil ?_ | refine syx_then ?_ | refine syx_go ?_ | refine syx_in ?_ | (refine sy_region (id := 6) ?_; refine y_load ?_; refine yv (op_loads (B := natC (V (q * 2 ^ (p - i))))) (k := ?_); refine yv (op_loads (B := natC v)) (k := ?_); refine yv (op_callFV (he := hena) (hc := fun w' X hk hh => hA w')) (k := ?_); refine yn (op_storeNat (n := V (q * 2 ^ (p - i) + 1))) (k := ?_)) | fail)
    refine syx_rnd (i, q * 2 ^ (p - i) + 1) ⟨hI2, hl2, by show i ≤ 1024; omega⟩ ?_
    dsimp only
    exact SubR.go2
  · rintro ⟨p, q⟩ ⟨hI, -, hp1⟩
    rw [left_end, Nat.sub_zero] at hI
    dsimp only at hI hp1 ⊢
    repeat' (first | refine sy_seqC ?_ | refine syx_go ?_ | (refine sy_region (id := 7) ?_; refine y_load ?_) | fail)
    refine ys (op_call (vs := [.int .i64 (0 : Nat)]) (cap := [.pointer (some ⟨b12, 0, none⟩), .pointer (some ⟨b8, 0, none⟩), .pointer (some ⟨b11, 0, none⟩)]) (C := [.blk b12 3 [.int .i64 p], .blk b11 44 (natC (V q))]) (M' := fun x => x = b12 ∨ x = b11)
      (hC := RemL.cons (by repeat (first | exact Rem.here | apply Rem.there)) rfl (RemL.cons (by repeat (first | exact Rem.here | apply Rem.there)) rfl RemL.nil)) (hM := fun b hb => by
        rcases hb with rfl | rfl
        · exact ⟨_, List.mem_cons_self .., rfl⟩
        · exact ⟨_, List.mem_cons_of_mem _ (List.mem_singleton.2 rfl), rfl⟩)
      (hc := fun w' X hk hh => descend_fn b12 b8 b11 p q 0 V fd sd cd w' (by omega) (by omega) hend hD (hh.both Has.go Has.go (blk_neT (by decide))) (blk_range (hh.has (r := .blk b8 67 [.func (.func fd) sd.toArray cd.toArray]) (by exact Has.append Has.go)) Seg.all 0 _ rfl)
        (fun e => e.elim (hh.ne (C1 := [.func (.func fd) sd.toArray cd.toArray]) (T1 := 67) (C2 := [.int .i64 p]) (T2 := 3) Has.go Has.go (blk_neT (by decide))) (hh.ne (C1 := [.func (.func fd) sd.toArray cd.toArray]) (T1 := 67) (C2 := natC (V q)) (T2 := 44) Has.go Has.go (blk_neT (by decide)))))) (k := ?_)
    rintro _ _ ⟨R, rfl, rfl⟩
    rw [Nat.sub_zero, ← hI]
    have hlV := natC_len (V x)
    repeat' (first | refine sy_seqC ?_ | refine syl_nil ?_ | refine sy_ret ?_ | refine syx_then ?_ | refine syx_go ?_ | (refine sy_region (id := 8) ?_; refine yv (op_loads (B := natC (V x))) (k := ?_); refine yn (op_storeNat (n := V x)) (k := ?_)) | fail)
    exact ret1 rfl (resCells (B := natC (V x)) rfl (ty rfl) rfl Has.go Seg.all (natC_len _).symm) SubR.nil ⟨rfl, rfl⟩
  · rintro _ k s hk h
    exact h.elim
end Go.Proofs.YtaeddmcoanefhaaGreatDoor
end
section
namespace Go.Sy
open Go
end Go.Sy
namespace Go.Nt
open Go Go.Sy
end Go.Nt
namespace Go.Proofs.YtaeddmcoanefhaaGreatDoor
open Go Go.Sy Go.Nt Go.RowKit
attribute [local irreducible] Sy SyL SyX Sy.Fn callFunc natC
set_option maxRecDepth 10000
end Go.Proofs.YtaeddmcoanefhaaGreatDoor
namespace Go.Nt
open Go Go.Sy
section
variable {N : Nat} {w0 : World} {M : Nat → Prop} {ds : List Deferred} {L L1 : List Res}
end
theorem row_sla {B0 : Nat} {w : World} {M : Nat → Prop} {E n m c : Nat} {a : Option Addr} {xs : List Value} {L : List Res} (hh : Holds B0 M L w) (hL : Has L (.row (.slice a m c) E 1 n xs)) : SlA w a xs := (SlF.row (Mi := No) hh hL (fun _ h => h.elim)).sla
end Go.Nt
namespace Go.Proofs.YtaeddmcoanefhaaGreatDoor
open Go Go.Sy Go.Nt Go.RowKit
attribute [local irreducible] Sy SyL SyX Sy.Fn callFunc natC
set_option maxRecDepth 10000
end Go.Proofs.YtaeddmcoanefhaaGreatDoor
namespace Go.Nt
open Go Go.Sy
section
variable {P : Program} {ro : Option Nat} {N : Nat} {w0 : World} {M : Nat → Prop} {ds : List Deferred} {g : Nat → Option Value} {L : List Res} {o : Oper}
end
end Go.Nt
namespace Go.Proofs.YtaeddmcoanefhaaGreatDoor
open Go Go.Sy Go.Nt Go.RowKit
attribute [local irreducible] Sy SyL SyX Sy.Fn callFunc natC
set_option maxRecDepth 10000
end Go.Proofs.YtaeddmcoanefhaaGreatDoor
end
section
namespace Go.Sy
open Go
theorem zeroCells_one (z0 : Value) (n : Nat) : (Builtin.zeroCells #[z0] n).toList = List.replicate n z0 := by
  unfold Builtin.zeroCells
  apply List.ext_getElem?
  intro i
  simp [List.getElem?_replicate]
  by_cases h : i < n
  · simp [h, Nat.mod_one]
  · simp [h]
section
variable {P : Program}
theorem run_append_zeros (w : World) {t tn ty e bytes : Nat} {i : TypeInfo} {zv z0 : Value} {kq kn : IntKind} (hd : P.underlying t = some (.slice e)) (htn : P.underlying tn = some (.int kn)) (hi : P.info? e = some i) (hz : i.zero = some zv) (hsz : i.size = 1) (hby : i.bytes = bytes) (hzc : zv.cells = #[z0]) (hone : z0.oneCell' = true)
    {v : Value} {k m : Nat} {xs : List Value} (hown : w.ownsRow 0 e 1 v k xs) (b1 : k + m ≤ maxLen) (b2 : (k + m) * bytes ≤ 140737488355328) :
    ∃ v' w', (Builtin.append_ #[t, tn] ty #[v, .int kq (m : Int)]).run P w = .ok v' w' ∧ w'.ownsRow 0 e 1 v' (k + m) (xs ++ List.replicate m z0) ∧ w.grownBy w' v.ownBlock ∧ ∀ b, v'.ownBlock = some b → v.ownBlock = some b ∨ w.heap.size ≤ b := by
  subst hby
  have hsmall : k + m ≤ 9223372036854775807 := by simp only [maxLen] at b1; omega
  have hlen : (xs ++ List.replicate m z0).length = (k + m) * 1 := by rw [List.length_append, hown.1, List.length_replicate]; omega
  have hmb : m * i.bytes ≤ 281474976710656 := by have : m * i.bytes ≤ (k + m) * i.bytes := Nat.mul_le_mul_right _ (by omega); omega
  have hw : IntKind.i64.wrap (m : Int) = m := by rw [IntKind.wrap_i64]; omega
  have hneg : ¬ ((m : Int) < 0) := by omega
  have h48i : ¬ (281474976710656 < (m : Int) * (i.bytes : Int)) := by rw [← Int.natCast_mul]; omega
  have grown : ∀ (old : Nat), old < k + m → ∀ (row : Option Nat),
      (w.drew.alloc (.cells (xs.toArray ++ Builtin.zeroCells zv.cells m ++ Builtin.zeroCells zv.cells (grownCap w (k + m) old e - (k + m))) e)).ownsRow 0 e 1
        (.slice (some ⟨w.heap.size, 0, none⟩) (k + m) (grownCap w (k + m) old e)) (k + m) (xs ++ List.replicate m z0) ∧
      w.grownBy (w.drew.alloc (.cells (xs.toArray ++ Builtin.zeroCells zv.cells m ++ Builtin.zeroCells zv.cells (grownCap w (k + m) old e - (k + m))) e)) row := by
    intro old ho row
    have hge := grownCap_ge w (k + m) old e
    have hcm : grownCap w (k + m) old e ≤ maxLen := grownCap_le_maxLen w (k + m) old e b1
    refine ⟨⟨hlen, .inr ⟨w.heap.size, _, _, rfl, Nat.zero_le _, heap_alloc_new w.drew _, hge, hcm, ?_, ?_⟩⟩, ⟨rfl, rfl, rfl, by simp, fun j hj _ => heap_alloc_old w.drew _ hj⟩⟩
    · simp only [Array.size_append, List.size_toArray, size_zeroCells, hzc, hown.1]
      simp; omega
    · simp only [Array.toList_append, hzc, zeroCells_one]
      rw [← hlen]
      exact List.take_left
  rcases hown.2 with ⟨rfl, rfl⟩ | ⟨g, cap, cur, rfl, hbg, hg, hnc, hcm, hcs, htake⟩
  · have hx : xs = [] := List.eq_nil_of_length_eq_zero (by simpa using hown.1)
    subst hx
    by_cases hm : m = 0
    · subst hm
      refine ⟨.slice none 0 0, w, ?_, World.ownsRow_nil w 0 e 1, ⟨rfl, rfl, rfl, Nat.le_refl _, fun _ _ _ => rfl⟩, fun b hb => .inl hb⟩
      simp [Builtin.append_, run_underlying hd, run_underlying htn, sizeOf, typeInfo, hi, asInt, asIntOf, IntKind.wrap_i64]
    · have hr := Lib.run_append_grow_zeros (P := P) w t tn ty e i zv kq kn hd htn hi hz none 0 0 [] (by simp [Builtin.firstCells]) m (by omega) (by omega) (by omega) (by omega) hmb (growslice_fits (by omega) b2)
      obtain ⟨h1, h2⟩ := grown 0 (by omega) (Value.ownBlock (.slice none 0 0))
      exact ⟨_, _, hr, h1, h2, fun b hb => .inr (by simp [Value.ownBlock] at hb; omega)⟩
  · by_cases hroom : k + m ≤ cap
    · have hfit : k + m ≤ cur.size := by rw [hcs]; omega
      have hst := run_storeCells_at P g (k * 1) e (List.replicate m z0) 0 cur w hg (by simp; omega) (by intro u hu; rw [List.eq_of_mem_replicate hu]; exact hone)
      simp only [Nat.add_zero] at hst
      refine ⟨.slice (some ⟨g, 0, none⟩) (k + m) cap, w.setRow g (cur.toList.take (k * 1) ++ List.replicate m z0 ++ cur.toList.drop (k * 1 + (List.replicate m z0).length)).toArray, ?_, ⟨hlen, .inr ⟨g, cap, _, rfl, hbg, setRow_heap w g cur _ e _ hg, hroom, hcm, ?_, ?_⟩⟩, ⟨rfl, rfl, rfl, by simp, fun j _ hj => setRow_other w g j _ (fun e => hj (by simp [Value.ownBlock, e]))⟩, fun b hb => .inl hb⟩
      · by_cases hm : m = 0
        · subst hm
          simp only [List.replicate_zero, List.append_nil, List.length_nil, Nat.add_zero, List.take_append_drop] at hst ⊢
          simp [Builtin.append_, run_underlying hd, run_underlying htn, sizeOf, typeInfo, hi, asInt, asIntOf, IntKind.wrap_i64, hnc, hsz, Addr.add_lit]
          have hst' : Sem.run P (storeCells { block := g, off := k } []) w = Result.ok () (w.setRow g cur) := by simpa using hst
          rw [hst']; rfl
        · have hz' : (Builtin.zeroCells zv.cells m).toList = List.replicate m z0 := by rw [hzc, zeroCells_one]
          have hns : ¬ (m * i.size = 0) := by rw [hsz]; omega
          simp [Builtin.append_, run_underlying hd, run_underlying htn, sizeOf, typeInfo, zeroValue, hi, hz, asInt, asIntOf, hw, hneg, h48i, hroom, hns, Addr.add_lit, hz', hsz, hm]
          have hst' : Sem.run P (storeCells { block := g, off := k } (List.replicate m z0)) w = Result.ok () (w.setRow g (List.take k cur.toList ++ (List.replicate m z0 ++ List.drop (k + m) cur.toList)).toArray) := by simpa using hst
          rw [hst']; rfl
      · simp only [List.size_toArray, List.length_append, List.length_take, List.length_drop, List.length_replicate, Array.length_toList]
        omega
      · rw [htake, ← hlen]
        exact List.take_left
    · have holds : ∀ j u, xs[j]? = some u → w.cell? ((⟨g, 0, none⟩ : Addr).add j) = some u := hown.cells (g := g) rfl
      have hf := run_firstCells_some (P := P) w.drew i.size k ⟨g, 0, none⟩ k cap xs (by rw [hsz]; exact hown.1) holds
      have hr := Lib.run_append_grow_zeros (P := P) w t tn ty e i zv kq kn hd htn hi hz (some ⟨g, 0, none⟩) k cap xs hf m (by omega) (by omega) (by omega) (by omega) hmb (growslice_fits (by omega) b2)
      obtain ⟨h1, h2⟩ := grown cap (by omega) (Value.ownBlock (.slice (some ⟨g, 0, none⟩) k cap))
      exact ⟨_, _, hr, h1, h2, fun b hb => .inr (by simp [Value.ownBlock] at hb; omega)⟩
end
section
variable {P : Program} {ro : Option Nat} {N : Nat} {w0 : World} {M : Nat → Prop} {ds : List Deferred} {g : Nat → Option Value} {L : List Res} {o : Oper} {t tn : TypeId} {y ye : Ty}
theorem op_appendZ {k m e : Nat} {v z0 : Value} {kq kn : IntKind} {xs : List Value} {L1 : List Res} {xo so : Operand} {l : Int} (hm : l = (m : Int)) (hL : Rem L (.row v e 1 k xs) L1) (ho : o.op = .call { callee := .builtin .append, args := #[so, xo], argTypes := #[t, tn] } := by exact rfl)
    (hs : ev g so = some v := by exact rfl) (hx : ev g xo = some (.int kq l) := by exact rfl) (ht : tyOf P t = some y := by exact ty rfl) (hy : y.desc = .slice e := by exact rfl) (htn : P.underlying tn = some (.int kn) := by exact tyI rfl rfl) (he : tyOf P e = some ye := by exact ty rfl) (hsz : ye.size = 1 := by exact rfl) (hz : zeroC P e = some [z0] := by exact zc rfl) (hone : z0.oneCell' = true := by exact rfl) (b1 : k + m ≤ maxLen := by first | (unfold maxLen; omega) | fail) (b2 : (k + m) * ye.bytes ≤ 140737488355328 := by first | (dsimp only; omega) | omega | fail) {km : Nat} {ys : List Value} (hkm : k + m = km := by exact rfl) (hys : xs ++ List.replicate m z0 = ys := by exact rfl) :
    OpT P ro N w0 M ds o g L (fun v' L' => L' = .row v' e 1 km ys :: L1 ∧ ∃ a c, v' = .slice a km c) := by
  subst hkm; subst hys; subst hm
  refine OpT.run (by rw [ho]; rfl) fun a w X hst => ?_
  obtain ⟨d, i', hd, hi', hs', _⟩ := tyOf_spec ht
  rw [hy] at hs'
  have := slim_slice hs'; subst this
  obtain ⟨de, ie, hde, hie, _, hez, heb, _⟩ := tyOf_spec he
  unfold zeroC at hz
  rw [hie] at hz
  simp only [Option.bind_some, Option.map_eq_some_iff] at hz
  obtain ⟨zv, hzv, hze⟩ := hz
  have hp := hst.perm (hL.append (X := X)).perm
  have hrow : w.ownsRow 0 e 1 v k xs := hp.hold.all _ List.mem_cons_self
  have hmine := fun b hb => hp.hold.mine (.row v e 1 k xs) List.mem_cons_self b hb
  obtain ⟨v', w', hrun, hown, hgr, hnew⟩ := run_append_zeros (P := P) (ty := o.type) (kq := kq) w hd htn hie hzv (hez.trans hsz) heb (Array.toList_inj.1 hze) hone hrow b1 b2
  have hkw : Keep (fun b => v.ownBlock = some b) w w' := Keep.grown hgr
  have hkeep : Keep M w0 w' := hst.keep.trans hkw (fun b hb => hmine b hb)
  refine ⟨.value v', v', w', _, ?_, .inl rfl, ⟨rfl, ?_⟩, hkeep, ?_⟩
  · have e1 : #[so, xo].map a.eval = #[v, .int kq (m : Int)] := by simp [hst.agr.eval hs, hst.agr.eval hx]
    simp only [execOp, ho, resolve, invoke, builtin, e1, Sem.run_bind, Sem.run_pure, Result.andThen_ok, hrun]
  · obtain ⟨_, ⟨h2, h3⟩ | ⟨b, c, cur, hv, _⟩⟩ := hown
    · exact ⟨none, 0, by rw [h2, h3]⟩
    · exact ⟨_, c, hv⟩
  · have ht := hp.hold.tail
    refine Holds.cons (L := L1 ++ X) (ht.keep hkw (fun r hr' b hb hb' => (List.pairwise_cons.1 hp.hold.apart).1 r hr' b hb' hb)) hown (fun r hr' b hb hb' => ?_) (fun b hb => ?_)
    · rcases hnew b hb with h | h
      · exact (List.pairwise_cons.1 hp.hold.apart).1 r hr' b h hb'
      · have := Res.own_lt (ht.all r hr') hb'; omega
    · rcases hnew b hb with h | h
      · exact hmine b h
      · exact .inl (Nat.le_trans hst.keep.size h)
end
end Go.Sy
end
