/- Bytes and strings of numbers. -/
import Derived.Test.YtkipmhcmdejcfaaDoorRNat12
set_option linter.all false
namespace Go.Nt
open Go Go.Sy
def byt (x : Nat) : List UInt8 := (be 256 x).map UInt8.ofNat
theorem byt_len (x : Nat) : (byt x).length = nd 256 x := by unfold byt; rw [List.length_map, be_len]
theorem be_low (b x : Nat) (hb : 0 < b) : ∀ d ∈ be b x, d < b := by
  intro d hd
  unfold be cd at hd
  exact dg_lt b hb _ _ d (List.mem_reverse.1 hd)
theorem bn_byt (x : Nat) : bn (byt x) = be 256 x := by
  unfold bn byt
  rw [List.map_map]
  refine (List.map_congr_left fun d hd => ?_).trans (List.map_id _)
  have := be_low 256 x (by decide) d hd
  show (UInt8.ofNat d).toNat = d
  rw [UInt8.toNat_ofNat']; omega
theorem bev_byt (x : Nat) : bev 256 (bn (byt x)) = x := by rw [bn_byt, bev_be 256 x (by decide)]
theorem take_set {α : Type} (l : List α) (z u : α) (n i : Nat) (h : l[i]? = some u) (hi : i < n) (hl : l.length = n) :
    (l.take i ++ List.replicate (n - i) z).set i u = l.take (i + 1) ++ List.replicate (n - (i + 1)) z := by
  have h1 : (l.take i).length = i := by rw [List.length_take]; omega
  rw [List.set_append_right _ _ (by omega), h1, Nat.sub_self, show n - i = (n - (i + 1)) + 1 by omega, List.replicate_succ, List.set_cons_zero, List.take_succ, h]
  simp
theorem place_digit (t k x p : Nat) (hW : t * k = 64) (hk : 0 < k) : x / 18446744073709551616 ^ (p / k) % 18446744073709551616 / 2 ^ (p % k * t) % 2 ^ t = x / (2 ^ t) ^ p % 2 ^ t := by
  have h := digit_of (2 ^ t) k x (p / k) (p % k) (Nat.mod_lt _ hk)
  rw [Nat.div_add_mod, ← Nat.pow_mul 2 t k, hW, ← Nat.pow_mul 2 t (p % k), Nat.mul_comm t (p % k)] at h
  exact h
end Go.Nt
namespace Go.Proofs.YtkipmhcmdejcfaaDoor
open Go Go.Sy Go.Nt Go.RowKit
attribute [local irreducible] Sy SyL SyX Sy.Fn callFunc natC
set_option maxRecDepth 10000
theorem bytes_fn (x : Nat) (w : World) (hx : x < 18446744073709551616 ^ 16) :
    Sy.Fn Tryd.prog 56 [natV x] w No (fun v R => ∃ b, v = .slice (some ⟨b, 0, none⟩) (nd 256 x) (nd 256 x) ∧ R = [.blk b 5 ((byt x).map v8)]) := by
  refine fn_enter Tryd.func56 rfl Tryd.ntmps56 (by simp) Holds.nil ?_
  have hlx := natC_len x
  have hgx := natC_get x
  have hnp := nd_pow 8 x (by decide)
  rw [show (2 : Nat) ^ 8 = 256 from rfl] at hnp
  have hm : nd 2 x ≤ 1024 := nd2_W hx
  have hbl := byt_len x
  have hbg := be_get 256 x
  have hq0 : IntKind.i64.wrap (((nd 2 x : Nat) : Int) + 7) = ((nd 2 x + 7 : Nat) : Int) := by rw [IntWalk.i64_in _ (by omega)]; omega
  have hq : IntKind.i64.wrap ((((nd 2 x + 7 : Nat) : Int)).tdiv 8) = ((nd 256 x : Nat) : Int) := by rw [hnp]; exact quoI (k := 8) (by omega)
  have hn : nd 256 x ≤ 128 := by omega
  have hbit := fun w => bitLen_fn x w hx
  generalize nd 2 x = m at *
  generalize nd 256 x = n at *
  repeat' (first | refine sy_seqC ?_ | refine syl_nil ?_ | refine sy_if_t rfl ?_ | refine sy_if_f rfl ?_ | refine sy_block ?_ | refine sy_skip ?_ | refine sy_ret ?_ | refine sy_exit ?_ | refine sy_label ?_ | refine syx_then ?_ | refine syx_go ?_ | refine syx_then_ret ?_ | refine syx_then_exit ?_ | refine syx_in ?_ | refine syx_in_ret ?_ | refine syx_in_here ?_ | refine syx_in_past rfl ?_ | (apply syx_begin; (focus ((repeat (first | exact Rem.here | apply Rem.there)); done)); assumption) | (refine sy_region (id := 0) ?_; try (refine y_new ?_; intro _); try refine y_assign ?_) | (refine sy_region (id := 1) ?_; try refine y_load ?_; try refine yv (op_callV (hc := fun _ _ _ _ => (hbit _))) (k := ?_); try refine yv (op_add (hr := hq0)) (k := ?_); try refine yv (op_quo (hr := hq)) (k := ?_)) | (refine sy_region (id := 2) ?_; try refine y_move ?_; try refine y_len ?_; try refine y_move ?_) | (refine ys op_makeB (k := ?_); rintro _ _ ⟨b3, rfl, rfl⟩) | (refine syl_id ?_; first | refine y_assign ?_ | fail) | refine sy_region ?_ | fail)
  rename_i b1
  refine sy_loop (γ := Nat) (fun i => [(1, .pointer (some ⟨b1, 0, none⟩)), (3, .slice (some ⟨b3, 0, none⟩) n n), (11, .slice (some ⟨b3, 0, none⟩) n n), (12, .int .i64 n), (13, .int .i64 i)])
    (fun i => [.blk b3 5 (((byt x).take i ++ List.replicate (n - i) 0).map v8), .blk b1 28 (natC x)])
    (fun i => i ≤ n) (fun i => n - i) 0 (Nat.zero_le _) ?_ ?_ ?_
  · (repeat' (first | exact Sub.nil | refine Sub.cons rfl ?_ ?_ | rfl))
  · show SubR [.blk b3 5 (((byt x).take 0 ++ List.replicate (n - 0) 0).map v8), .blk b1 28 (natC x)] _
    rw [List.take_zero, List.nil_append, List.map_replicate, Nat.sub_zero, ← v8_zero]
    (repeat' (first | exact SubR.nil | (apply SubR.same; with_reducible (focus ((repeat (first | exact Rem.here | apply Rem.there)); done))) | (apply SubR.blk; (focus ((repeat (first | exact Rem.here | apply Rem.there)); done))) | (apply SubR.pick; (focus ((repeat (first | exact Rem.here | apply Rem.there)); done))) | rfl))
  intro i hi
  by_cases hlt : i < n
  · obtain ⟨p, hp⟩ : ∃ p, p = n - 1 - i := ⟨_, rfl⟩
    have hd := hgx (p / 8) (by omega)
    have hpd := place_digit 8 8 x p rfl (by decide)
    have hbi := hbg i hlt
    rw [← hp] at hbi
    have hu : (byt x)[i]? = some (UInt8.ofNat (x / 256 ^ p % 256)) := by
      unfold byt; rw [List.getElem?_map, hbi]; rfl
    have hset := take_set (byt x) 0 _ n i hu hlt hbl
    have hdl : x / 18446744073709551616 ^ (p / 8) % 18446744073709551616 < 18446744073709551616 := Nat.mod_lt _ (by decide)
    generalize x / 18446744073709551616 ^ (p / 8) % 18446744073709551616 = d at *
    have hml : (((byt x).take i ++ List.replicate (n - i) 0).map v8).length = n := by rw [List.length_map, List.length_append, List.length_take, List.length_replicate]; omega
    have hsub : IntKind.i64.wrap ((n : Int) - 1 - (i : Int)) = ((p : Nat) : Int) := by rw [IntWalk.i64_in _ (by omega)]; omega
    have q1 : IntKind.i64.wrap ((p : Int).tdiv 8) = ((p / 8 : Nat) : Int) := quoI (k := 8) (by omega)
    have q2 : (p : Int).tmod 8 = ((p % 8 : Nat) : Int) := remI p 8
    have q3 : IntKind.i64.wrap (((p % 8 : Nat) : Int) * 8) = ((p % 8 * 8 : Nat) : Int) := by rw [IntWalk.i64_in _ (by omega)]; omega
    have q4 : IntKind.u8.wrap ((d / 2 ^ (p % 8 * 8) : Nat) : Int) = Wd.n8 (UInt8.ofNat (x / 256 ^ p % 256)) := by
      rw [Wd.wrap_u8_nat, Wd.n8_of_nat]
      rw [show (2 : Nat) ^ 8 = 256 from rfl] at hpd
      rw [hpd, Nat.mod_mod]
    have hp8 : p / 8 < 16 := by omega
    generalize UInt8.ofNat (x / 256 ^ p % 256) = u at *
    repeat' (first | refine sy_seqC ?_ | refine syl_nil ?_ | refine sy_if_t rfl ?_ | refine sy_if_f rfl ?_ | refine sy_block ?_ | refine sy_skip ?_ | refine sy_ret ?_ | refine sy_exit ?_ | refine sy_label ?_ | refine syx_then ?_ | refine syx_go ?_ | refine syx_then_ret ?_ | refine syx_then_exit ?_ | refine syx_in ?_ | refine syx_in_ret ?_ | refine syx_in_here ?_ | refine syx_in_past rfl ?_ | (apply syx_begin; (focus ((repeat (first | exact Rem.here | apply Rem.there)); done)); assumption) | (refine sy_region (id := 3) ?_; try refine y_lss ?_) | (refine sy_region (id := 4) ?_; try refine y_move ?_; try refine y_assign ?_) | (refine sy_region (id := 5) ?_; try refine y_move ?_; try refine y_len ?_; try refine y_sub ?_; try refine y_move ?_; try refine yv (op_sub (hr := hsub)) (k := ?_); try refine y_assign ?_) | (refine sy_region (id := 6) ?_; try refine y_move ?_; try refine y_move ?_; try refine y_move ?_; try refine yv (op_quo (hr := q1)) (k := ?_); try refine y_fieldAddr ?_; try refine y_indexAddr ?_; try refine yv (op_load (hv := hd)) (k := ?_); try refine y_move ?_; try refine yv (op_rem (hr := q2)) (k := ?_); try refine yv (op_mul (hr := q3)) (k := ?_); try refine yv (op_shrN64 (a := d) (n := p % 8 * 8) hdl) (k := ?_); try refine yv (op_conv (hr := q4)) (k := ?_); try refine y_indexAddr ?_; try refine y_store ?_) | (refine sy_region (id := 7) ?_; try refine y_add ?_; try refine y_move ?_) | refine sy_region ?_ | fail)
    refine syx_back (i + 1) ?_ ?_ ?_ ?_
    · show i + 1 ≤ n; omega
    · show n - (i + 1) < n - i; omega
    · (repeat' (first | exact Sub.nil | refine Sub.cons rfl ?_ ?_ | rfl))
    · show SubR [.blk b3 5 (((byt x).take (i + 1) ++ List.replicate (n - (i + 1)) 0).map v8), .blk b1 28 (natC x)] _
      rw [← hset, List.map_set]
      (repeat' (first | exact SubR.nil | (apply SubR.same; with_reducible (focus ((repeat (first | exact Rem.here | apply Rem.there)); done))) | (apply SubR.blk; (focus ((repeat (first | exact Rem.here | apply Rem.there)); done))) | (apply SubR.pick; (focus ((repeat (first | exact Rem.here | apply Rem.there)); done))) | rfl))
  obtain rfl : i = n := by omega
  rw [Nat.sub_self, List.replicate_zero, List.append_nil, ← hbl, List.take_length]
  repeat' (first | refine sy_seqC ?_ | refine syl_nil ?_ | refine sy_if_t rfl ?_ | refine sy_if_f rfl ?_ | refine sy_block ?_ | refine sy_skip ?_ | refine sy_ret ?_ | refine sy_exit ?_ | refine sy_label ?_ | refine syx_then ?_ | refine syx_go ?_ | refine syx_then_ret ?_ | refine syx_then_exit ?_ | refine syx_in ?_ | refine syx_in_ret ?_ | refine syx_in_here ?_ | refine syx_in_past rfl ?_ | (apply syx_begin; (focus ((repeat (first | exact Rem.here | apply Rem.there)); done)); assumption) | (refine sy_region (id := 3) ?_; try refine y_lss ?_) | (refine sy_region (id := 8) ?_; try refine y_move ?_; try refine y_assign ?_) | refine sy_region ?_ | fail)
  exact ret1 rfl (resTmp rfl) (by (repeat' (first | exact SubR.nil | (apply SubR.same; with_reducible (focus ((repeat (first | exact Rem.here | apply Rem.there)); done))) | (apply SubR.blk; (focus ((repeat (first | exact Rem.here | apply Rem.there)); done))) | (apply SubR.pick; (focus ((repeat (first | exact Rem.here | apply Rem.there)); done))) | rfl))) ⟨b3, rfl, rfl⟩
end Go.Proofs.YtkipmhcmdejcfaaDoor
namespace Go.Nt
open Go Go.Sy
end Go.Nt
namespace Go.Proofs.YtkipmhcmdejcfaaDoor
open Go Go.Sy Go.Nt Go.RowKit
attribute [local irreducible] Sy SyL SyX Sy.Fn callFunc natC
set_option maxRecDepth 10000
end Go.Proofs.YtkipmhcmdejcfaaDoor
