/- Layer group: one contract for a function, whatever the group is. -/
import Derived.Test.YtaeddmcoanefhaaGreatDoorVJ30
import Derived.Test.YtaeddmcoanefhaaGreatDoorVJ07
import Derived.Test.YtaeddmcoanefhaaGreatDoorVJ25
import Derived.Test.YtaeddmcoanefhaaGreatDoorVJ28
set_option linter.all false
section
namespace Go.Proofs.YtaeddmcoanefhaaGreatDoor
open Go Go.Sy Go.Nt Go.RowKit
attribute [local irreducible] Sy SyL SyX Sy.Fn callFunc natC rowN gP gQ gL memB safeC fixB
set_option maxRecDepth 10000
def glen (z : Int) : Nat := if 1 ≤ z ∧ z ≤ 4 then gL z.toNat else 0
theorem of_ok {z : Int} (hz : 1 ≤ z ∧ z ≤ 4) : ∃ i : Nat, z = (i : Int) ∧ z.toNat = i ∧ 1 ≤ i ∧ i ≤ 4 := ⟨z.toNat, by omega, rfl, by omega, by omega⟩
theorem glenz_fn (z : Int) (w : World) (hG : GT w) : Sy.Fn Tryz.prog 19 [.int .i64 z] w No (Gives (.int .i64 ((glen z : Nat) : Int))) := by
  unfold glen
  by_cases hz : 1 ≤ z ∧ z ≤ 4
  · rw [if_pos hz]
    obtain ⟨i, rfl, hi, h0, h5⟩ := of_ok hz
    rw [hi]; exact glen_fn i w h0 h5 hG
  · rw [if_neg hz]; exact glen_bad z w hz
end Go.Proofs.YtaeddmcoanefhaaGreatDoor
end
section
namespace Go.Nt
end Go.Nt
end
section
namespace Go.Nt
theorem bevW' {l : List UInt8} (h : l.length ≤ 128) : bev 256 (bn l) < 18446744073709551616 ^ 16 := by
  rw [w_of 256 8 128 rfl rfl]
  refine Nat.lt_of_lt_of_le (bev_lt 256 (bn l) (bn_lt l)) ?_
  rw [show (bn l).length = l.length from List.length_map _]
  exact Nat.pow_le_pow_right (by decide) h
end Go.Nt
namespace Go.Proofs.YtaeddmcoanefhaaGreatDoor
open Go Go.Sy Go.Nt Go.RowKit
theorem bev_fixB (l x : Nat) : bev 256 (bn (fixB l x)) = x := by unfold fixB; rw [bev_zeros, bev_byt]
theorem gQ_nd {i x : Nat} (h0 : 1 ≤ i) (h5 : i ≤ 4) (h : x < gQ i) : nd 256 x ≤ gL i := gP_nd h0 h5 (Nat.lt_of_lt_of_le h (gQ_P i))
end Go.Proofs.YtaeddmcoanefhaaGreatDoor
end
section
namespace Go.Sh
open Go
def kbase (key : List UInt8) : List UInt8 := if 64 < key.length then sum key else key
def kpad (key : List UInt8) : List UInt8 := kbase key ++ List.replicate (64 - (kbase key).length) 0
def kxor (k : List UInt8) (m : UInt8) : List UInt8 := k.map (· ^^^ m)
def hmac (key text : List UInt8) : List UInt8 := sum (kxor (kpad key) 92 ++ sum (kxor (kpad key) 54 ++ text))
theorem kbase_le (key : List UInt8) (h : (sum key).length = 32) : (kbase key).length ≤ 64 := by unfold kbase; split <;> omega
theorem kpad_len (key : List UInt8) (h : (sum key).length = 32) : (kpad key).length = 64 := by
  have := kbase_le key h
  unfold kpad; rw [List.length_append, List.length_replicate]; omega
theorem kxor_len (k : List UInt8) (m : UInt8) : (kxor k m).length = k.length := List.length_map _
end Go.Sh
namespace Go.Sh
open Go
def four (v : Nat) : List UInt8 := [UInt8.ofNat (v / 16777216), UInt8.ofNat (v / 65536), UInt8.ofNat (v / 256), UInt8.ofNat v]
theorem four_len (v : Nat) : (four v).length = 4 := rfl
def dblock (key label ctx : List UInt8) (n i : Nat) : List UInt8 := hmac key (four i ++ label ++ [0] ++ ctx ++ four (8 * n))
def rows (f : Nat → List UInt8) (k : Nat) : List UInt8 := (List.range k).flatMap fun i => f (i + 1)
theorem rows_succ (f : Nat → List UInt8) (k : Nat) : rows f (k + 1) = rows f k ++ f (k + 1) := by
  unfold rows; rw [List.range_succ, List.flatMap_append]; simp
theorem rows_len (f : Nat → List UInt8) (h : ∀ i, (f i).length = 32) : ∀ k, (rows f k).length = 32 * k
  | 0 => rfl
  | k + 1 => by rw [rows_succ, List.length_append, rows_len f h k, h]; omega
def firstN (f : Nat → List UInt8) (n : Nat) : List UInt8 := (rows f ((n + 31) / 32)).take n
theorem firstN_len (f : Nat → List UInt8) (h : ∀ i, (f i).length = 32) (n : Nat) : (firstN f n).length = n := by
  unfold firstN; rw [List.length_take, rows_len f h]; omega
theorem rows_prefix (f : Nat → List UInt8) (h : ∀ i, (f i).length = 32) (k : Nat) : ∀ j, (rows f (k + j)).take (32 * k) = rows f k
  | 0 => by rw [Nat.add_zero, List.take_of_length_le]; rw [rows_len f h]; exact Nat.le_refl _
  | j + 1 => by
    rw [← Nat.add_assoc, rows_succ, List.take_append_of_le_length (by rw [rows_len f h]; omega)]
    exact rows_prefix f h k j
theorem firstN_of (f : Nat → List UInt8) (h : ∀ i, (f i).length = 32) (n k : Nat) (hk : n ≤ 32 * k) : (rows f k).take n = firstN f n := by
  obtain ⟨j, rfl⟩ : ∃ j, k = (n + 31) / 32 + j := ⟨k - (n + 31) / 32, by omega⟩
  unfold firstN
  rw [← rows_prefix f h ((n + 31) / 32) j, List.take_take, Nat.min_eq_left (by omega)]
end Go.Sh
end
section
namespace Go.Nt
open Go Go.Sh
def pkLab : Bool → List UInt8
  | true => [119, 97, 116, 99, 104, 119, 111, 114, 100, 32, 112, 97, 107, 101, 32, 99, 108, 105, 101, 110, 116]
  | false => [119, 97, 116, 99, 104, 119, 111, 114, 100, 32, 112, 97, 107, 101, 32, 115, 101, 114, 118, 101, 114]
def pkH (i : Nat) (s : Bool) : Nat := bev 256 (bn (Sh.sum (pkLab s ++ [UInt8.ofNat i, 0])))
def pkPt (i : Nat) (s : Bool) : Nat := pkH i s * pkH i s % gP i
def pkLabS : List UInt8 := [119, 97, 116, 99, 104, 119, 111, 114, 100, 32, 112, 97, 107, 101, 32, 115, 101, 99, 114, 101, 116]
def pkLabW : List UInt8 := [115, 99, 97, 108, 97, 114]
def pkW (i : Nat) (secret : List UInt8) : Nat := bev 256 (bn (firstN (dblock (hmac pkLabS secret) (pkLabW ++ [UInt8.ofNat i]) [] 32) 32)) % gQ i
def pkX (i : Nat) (priv : List UInt8) : Nat := if bev 256 (bn priv) % gQ i = 0 then 1 else bev 256 (bn priv) % gQ i
def pkOwn (s : Bool) (i w x : Nat) : Nat := (4 ^ x % gP i) * (pkPt i s ^ w % gP i) % gP i
def pkSh (s : Bool) (i w x y : Nat) : Nat := (y * (inv (gP i) (pkPt i (!s) ^ w % gP i)).2 % gP i) ^ x % gP i
def pkFr (l : List UInt8) : List UInt8 := four l.length ++ l
def pkDig (i : Nat) (ctx client server shared scalar : List UInt8) : List UInt8 := Sh.sum (pkFr ctx ++ (pkFr [UInt8.ofNat i] ++ (pkFr client ++ (pkFr server ++ (pkFr shared ++ pkFr scalar)))))
def pkDer (dig label : List UInt8) : List UInt8 := firstN (dblock dig label [] 32) 32
def pkKey : List UInt8 := [107, 101, 121]
def pkName : Bool → List UInt8
  | true => [99, 108, 105, 101, 110, 116]
  | false => [115, 101, 114, 118, 101, 114]
theorem pkPt_1 (s : Bool) : 1 < pkPt 1 s ∧ pmod (gP 1) (gE 1) (pkPt 1 s) (gQ 1) = 1 := by cases s <;> decide +kernel
theorem pkPt_2 (s : Bool) : 1 < pkPt 2 s ∧ pmod (gP 2) (gE 2) (pkPt 2 s) (gQ 2) = 1 := by cases s <;> decide +kernel
theorem pkPt_3 (s : Bool) : 1 < pkPt 3 s ∧ pmod (gP 3) (gE 3) (pkPt 3 s) (gQ 3) = 1 := by cases s <;> decide +kernel
theorem pkPt_4 (s : Bool) : 1 < pkPt 4 s ∧ pmod (gP 4) (gE 4) (pkPt 4 s) (gQ 4) = 1 := by cases s <;> decide +kernel
theorem pkPt_ok (i : Nat) (s : Bool) (h0 : 1 ≤ i) (h5 : i ≤ 4) : 1 < pkPt i s ∧ mem i (pkPt i s) := by
  have h := gP_cases (p := fun i => 1 < pkPt i s ∧ pmod (gP i) (gE i) (pkPt i s) (gQ i) = 1) (pkPt_1 s) (pkPt_2 s) (pkPt_3 s) (pkPt_4 s) i h0 h5
  rw [pmod_ok (gP i) (gE i) _ (gQ i) (gQ_lt i h0 h5)] at h
  exact ⟨h.1, by omega, Nat.mod_lt _ (Nat.lt_trans Nat.zero_lt_one (gP_one i h0 h5)), h.2⟩
theorem pkSh_own {i : Nat} (s : Bool) (h0 : 1 ≤ i) (h5 : i ≤ 4) (w x x' : Nat) : pkSh s i w x (pkOwn (!s) i w x') = 4 ^ (x' * x) % gP i := by
  unfold pkSh pkOwn
  have hm := (pkPt_ok i (!s) h0 h5).2
  generalize pkPt i (!s) = n at *
  have h1 : Cg (gP i) ((n ^ w % gP i) ^ gQ i) 1 := by
    refine ((cg_mod _ _).pow _).trans ?_
    have := (mem_cg h0 h5 hm.2.2).pow w
    rwa [Nat.one_pow, ← Nat.pow_mul, Nat.mul_comm, Nat.pow_mul] at this
  have hg := unit_gcd (Nat.lt_of_lt_of_le (by decide) (gQ_low i h0 h5)) h1
  obtain ⟨i1, i2⟩ := inv_ok (gP i) (n ^ w % gP i) (Nat.lt_trans Nat.zero_lt_one (gP_one i h0 h5))
  rw [i1, hg] at i2
  generalize (inv (gP i) (n ^ w % gP i)).2 = v at *
  generalize n ^ w % gP i = u at *
  have h2 : Cg (gP i) (4 ^ x' % gP i * u % gP i * v % gP i) (4 ^ x') := by
    refine (cg_mod _ _).trans (((cg_mod _ _).mul (Cg.refl _ v)).trans ?_)
    rw [Nat.mul_assoc, Nat.mul_comm u v]
    have := (cg_mod (gP i) (4 ^ x')).mul i2
    rwa [Nat.mul_one] at this
  rw [Nat.pow_mul]
  exact (h2.pow x).mod
theorem pkSh_eq {i : Nat} (h0 : 1 ≤ i) (h5 : i ≤ 4) (w x x' : Nat) : pkSh true i w x (pkOwn false i w x') = pkSh false i w x' (pkOwn true i w x) := by
  have h1 := pkSh_own true h0 h5 w x x'
  have h2 := pkSh_own false h0 h5 w x' x
  rw [show (!true) = false from rfl] at h1
  rw [show (!false) = true from rfl] at h2
  rw [h1, h2, Nat.mul_comm]
def pkSec : List UInt8 := [115, 101, 99, 114, 101, 116]
def pkFill (b : UInt8) : List UInt8 := List.replicate 32 b
def pw (i b e : Nat) : Nat := pmod (gP i) (gE i) b e
theorem pw_ok {i b e : Nat} (h : e < 2 ^ gE i) : pw i b e = b ^ e % gP i := pmod_ok _ _ _ _ h
def fx (l x : Nat) : List UInt8 := ((dg 256 l x).reverse).map UInt8.ofNat
def exW : Nat := pkW 3 pkSec
def exC : Nat := (pw 3 4 (pkX 3 (pkFill 3))) * (pw 3 (pkPt 3 true) exW) % gP 3
def exS : Nat := (pw 3 4 (pkX 3 (pkFill 5))) * (pw 3 (pkPt 3 false) exW) % gP 3
def exSh : Nat := pw 3 (pw 3 4 (pkX 3 (pkFill 5))) (pkX 3 (pkFill 3))
def exD : List UInt8 := pkDig 3 [] (fx 4 exC) (fx 4 exS) (fx 4 exSh) (fx 4 exW)
theorem ex_ne : exC ≠ 1 ∧ exS ≠ 1 := by decide +kernel
theorem ex_conf : pkDer exD (pkName true) ≠ pkDer exD (pkName false) := by decide +kernel
end Go.Nt
namespace Go.Proofs.YtaeddmcoanefhaaGreatDoor
open Go Go.Nt
theorem fix_fx {l x : Nat} (h : nd 256 x ≤ l) : fixB l x = fx l x := by
  unfold fixB byt be cd fx
  obtain ⟨k, rfl⟩ : ∃ k, l = nd 256 x + k := ⟨l - nd 256 x, by omega⟩
  rw [dg_append, Nat.div_eq_of_lt (nd_lt 256 x (by decide)), dg_zero, List.reverse_append, List.reverse_replicate, List.map_append, List.map_replicate, Nat.add_sub_cancel_left]
  rfl
end Go.Proofs.YtaeddmcoanefhaaGreatDoor
end
section
namespace Go.Sh
open Go Go.Wd Go.RowKit Go.Sy
def hcells (s : List UInt32) (r : List UInt8) (N : Nat) : List Value := s.map Sy.v32 ++ (r.map Sy.v8 ++ [.int .i64 N])
def HashIs (l : List UInt8) (C : List Value) : Prop := ∃ (s : List UInt32) (r : List UInt8), C = hcells s r l.length ∧ s.length = 8 ∧ r.length = 64 ∧ (l ≠ [] → s = fold h0 (whole (l.length / 64) l)) ∧ r.take (l.length % 64) = l.drop (64 * (l.length / 64))
section
variable {s s' : List UInt32} {r b : List UInt8} {N N' : Nat}
theorem hcells_len (hs : s.length = 8) (hr : r.length = 64) : (hcells s r N).length = 73 := by simp [hcells, hs, hr]
theorem hcells_n (hs : s.length = 8) (hr : r.length = 64) : (hcells s r N)[72]? = some (.int .i64 N) := by
  unfold hcells; rw [List.getElem?_append_right (by simp [hs]), List.getElem?_append_right (by simp [hs, hr])]; simp [hs, hr]
theorem hcells_setN (hs : s.length = 8) (hr : r.length = 64) : SetAt (hcells s r N) 72 (.int .i64 N') (hcells s r N') := by
  refine ⟨by rw [hcells_len hs hr]; omega, ?_⟩
  unfold hcells; rw [List.set_append_right _ _ (by simp [hs]), List.set_append_right _ _ (by simp [hs, hr])]; simp [hs, hr]
theorem hcells_seg : Seg (hcells s r N) 0 (s.map Sy.v32) := fun j v h => by
  have hj : j < (s.map Sy.v32).length := (List.getElem?_eq_some_iff.1 h).1
  unfold hcells; rw [Nat.zero_add, List.getElem?_append_left hj]; exact h
theorem hcells_segR (hs : s.length = 8) : Seg (hcells s r N) 8 (r.map Sy.v8) := fun j v h => by
  have hj : j < (r.map Sy.v8).length := (List.getElem?_eq_some_iff.1 h).1
  unfold hcells; rw [List.getElem?_append_right (by simp [hs]), List.length_map, hs, Nat.add_sub_cancel_left, List.getElem?_append_left hj]; exact h
theorem hcells_setS (hs : s.length = 8) (hs' : s'.length = 8) : setSeg (hcells s r N) 0 (s'.map Sy.v32) = hcells s' r N := by
  rw [setSeg0]; unfold hcells; rw [List.length_map, hs', List.drop_left' (by simp [hs])]
theorem hcells_setR {u : Nat} (hs : s.length = 8) (hr : r.length = 64) (hb : u + b.length ≤ 64) : setSeg (hcells s r N) (8 + u) (b.map Sy.v8) = hcells s (r.take u ++ b ++ r.drop (u + b.length)) N := by
  unfold setSeg hcells
  rw [List.length_map]
  have e1 : List.take (8 + u) (s.map Sy.v32 ++ (r.map Sy.v8 ++ [.int .i64 N])) = s.map Sy.v32 ++ (r.take u).map Sy.v8 := by
    rw [List.take_append, List.take_of_length_le (by simp [hs]), List.length_map, hs, Nat.add_sub_cancel_left, List.take_append_of_le_length (by simp [hr]; omega), List.map_take]
  have e2 : List.drop (8 + u + b.length) (s.map Sy.v32 ++ (r.map Sy.v8 ++ [.int .i64 N])) = (r.drop (u + b.length)).map Sy.v8 ++ [.int .i64 N] := by
    rw [List.drop_append, List.drop_eq_nil_of_le (by simp [hs]; omega), List.length_map, hs, List.nil_append, show 8 + u + b.length - 8 = u + b.length from by omega, List.drop_append_of_le_length (by simp [hr]; omega), List.map_drop]
  rw [e1, e2]; simp
end
theorem HashIs.zero : HashIs [] (List.replicate 8 (.int .u32 0) ++ (List.replicate 64 (.int .u8 0) ++ [.int .i64 0])) :=
  ⟨List.replicate 8 0, List.replicate 64 0, rfl, rfl, rfl, fun h => (h rfl).elim, rfl⟩
theorem HashIs.len {l : List UInt8} {C : List Value} (h : HashIs l C) : C.length = 73 := by
  obtain ⟨s, r, rfl, hs, hr, _⟩ := h; exact hcells_len hs hr
theorem whole_prefix (j : Nat) (l b : List UInt8) (h : 64 * j ≤ l.length) : whole j (l ++ b) = whole j l := whole_take j l b h
theorem whole_snoc (j : Nat) (L : List UInt8) : whole (j + 1) L = whole j L ++ [(L.drop (64 * j)).take 64] := by
  rw [whole_add]; rfl
end Go.Sh
namespace Go.Proofs.YtaeddmcoanefhaaGreatDoor
open Go Go.Sy Go.Sh Go.RowKit
attribute [local irreducible] Sy SyL SyX Sy.Fn callFunc
set_option maxRecDepth 10000
set_option maxHeartbeats 1000000 in
theorem sumH_fn (S : Nat) (l : List UInt8) (C : List Value) (w : World) (hC : (Res.blk S 129 C).holds w) (hI : HashIs l C) (hb : l.length < 1000000000000) (hT : Tab w No) :
    Sy.Fn Tryz.prog 84 [.pointer (some ⟨S, 0, none⟩)] w No (Gives (.agg ((sum l).map Sy.v8).toArray)) := by
  obtain ⟨s, r, rfl, hs, hr, hS, hR⟩ := hI
  have h72 : w.cell? ⟨S, 0 + 72, none⟩ = some (.int .i64 l.length) := by rw [Sy.blk_cell hC]; exact hcells_n hs hr
  have hst : w.rangeAt S (0 + 0) (s.map Sy.v32) := blk_range hC hcells_seg
  have hre : w.rangeAt S (0 + 8) (r.map Sy.v8) := blk_range hC (hcells_segR hs)
  refine fn_enter Tryz.func84 rfl Tryz.ntmps84 (by simp) Holds.nil ?_
  by_cases hl0 : l = []
  · subst hl0
    repeat' (first | refine sy_seqC ?_ | refine syl_nil ?_ | refine sy_if_t rfl ?_ | refine sy_ret ?_ | refine syx_then ?_ | refine syx_go ?_ | refine syx_then_ret ?_ | (refine sy_region (id := 0) ?_; (refine y_new ?_; intro _)) | (refine sy_region (id := 1) ?_; refine y_move ?_; refine y_eql ?_; refine y_move ?_; refine y_move ?_; refine y_nilCheck ?_; refine y_fieldAddr ?_; refine y_load ?_; refine y_eql ?_; refine y_pick ?_) | (refine sy_region (id := 2) ?_; refine yv (op_callV (hc := fun w' _ hk _ => shsum_fn none 0 0 [] w' rfl (Nat.le_refl _) (by decide) SlA.nil (hT.no hk))) (k := ?_); refine y_store ?_) | fail)
    exact ret1 rfl (resCells rfl (ty rfl) rfl Has.go Seg.all (by first | rfl | (simp only [List.length_map, List.length_set, List.length_replicate, List.length_append]; omega) | (simp only [List.length_map]; first | assumption | omega) | (simp; omega) | fail)) SubR.nil ⟨rfl, rfl⟩
  · have hpos : 0 < l.length := List.length_pos_iff.2 hl0
    have hrem : ((l.length : Int)).tmod 64 = ((l.length % 64 : Nat) : Int) := rfl
    have hu : l.length % 64 < 64 := by omega
    generalize hud : l.length % 64 = u at *
    repeat' (first | refine sy_seqC ?_ | refine syl_nil ?_ | refine sy_if_f rfl ?_ | refine sy_skip ?_ | refine syx_then ?_ | refine syx_go ?_ | (refine sy_region (id := 0) ?_; (refine y_new ?_; intro _)) | (refine sy_region (id := 1) ?_; refine y_move ?_; refine y_eql ?_; refine y_move ?_; refine y_move ?_; refine y_nilCheck ?_; refine y_fieldAddr ?_; refine y_load ?_; refine y_eql ?_; refine y_pick ?_) | (refine sy_region (id := 3) ?_; refine y_move ?_; refine y_nilCheck ?_; refine y_fieldAddr ?_; refine y_load ?_; (refine y_new ?_; intro _); refine y_store ?_) | (refine sy_region (id := 4) ?_; refine y_move ?_; refine y_nilCheck ?_; refine y_fieldAddr ?_; refine y_load ?_; refine yv (op_rem (hr := hrem)) (k := ?_); refine y_assign ?_) | (refine sy_draw (id := 5) 10 [[], [0], [0, 1], [], [], [0, 1, 2, 3, 4], [], [6], [6, 7], [6, 7, 8], [0, 1, 2, 3, 4, 5, 6, 7, 8, 9]] mixed ?_ ?_; kernel_rfl; refine d_move ?_; refine d_nilCheck ?_; refine d_fieldAddr ?_; refine d_move ?_; refine d_move ?_; refine d_slice ?_; refine d_move ?_; refine d_nilCheck ?_; refine d_fieldAddr ?_; refine d_load ?_; refine dh_0n ?_) | fail)
    rename_i bo bs
    have hlast : (l.drop (64 * (l.length / 64))).length = u := by rw [List.length_drop]; omega
    have hsl : SlA w (some ⟨S, 0 + 8, none⟩) ((l.drop (64 * (l.length / 64))).map Sy.v8) := by
      refine .inr ⟨S, 0 + 8, rfl, fun j v hj => hre j v ?_⟩
      rw [← hR, List.map_take, List.getElem?_take] at hj
      split at hj
      · exact hj
      · cases hj
    generalize hlst : l.drop (64 * (l.length / 64)) = last at *
    refine ys (op_call0 (hc := fun w' X hk hh => padded_fn _ _ w' rfl)) (k := ?_)
    rintro _ _ ⟨R, rfl, b1, b2, rfl, rfl⟩
    repeat' (first | refine syl_nil ?_ | refine sy_block ?_ | refine syx_then ?_ | refine syx_go ?_ | fail)
    refine sy_range (γ := Nat) (xs := blocks last l.length) (Arg := ArgB) entered_outer rfl (en rfl) rfl (fun k s => s = k) (fun _ _ _ => False) (fun k => [.blk bs 126 ((fold s ((blocks last l.length).take k)).map Sy.v32)])
      [.blk b1 22 [.slice (some ⟨S, 0 + 8, none⟩) u u], .blk b2 3 [.int .i64 l.length]] [.blk bo 37 (List.replicate 32 (.int .u8 0))] 0 rfl ?_ ?_ ?_ ?_ ?_ ?_
    · exact (List.perm_append_comm (l₁ := [_, _]) (l₂ := [_])).append_right _
    · exact fun w' Mi X hk hm _ _ => padded1_it b1 b2 _ u u l.length last w' Mi hlast (Nat.le_refl _) (by omega) (hsl.to hk hm)
    · rintro O x vs RA w' ⟨b, o, rfl, _⟩; rfl
    · rintro lp k hk q vs RA W rec hrec rfl ⟨b, o, rfl, rfl, hrd, hno⟩ hkW hmine
      have hT' := hT.to hkW hmine
      have hl8 : (fold s ((blocks last l.length).take q)).length = 8 := fold_len _ _ hs
      have hl64 : (blocks last l.length)[q].length = 64 := blocks_all _ _ _ (List.getElem_mem hk)
      have hfs := fold_take_succ s (blocks last l.length) q hk
      generalize fold s ((blocks last l.length).take q) = st at *
      generalize (blocks last l.length)[q] = x at *
      have hcl := compress_len st x hl8
      repeat' (first | refine syl_nil ?_ | refine sy_block ?_ | refine syx_then ?_ | refine syx_in ?_ | (apply syx_begin; (focus ((repeat (first | exact Rem.here | apply Rem.there)); done)); assumption) | (refine sy_region (id := 6) ?_; refine y_assign ?_) | (refine sy_region (id := 7) ?_; refine y_move ?_; refine yv (op_callB (hc := fun w' X hk hh => add_fn0 bs 126 b o st x w' hl8 hl64 (hh.has (Has.append (Has.there Has.here))) (range_keep hrd hk hno) (hT'.no hk).konst)) (k := ?_)) | fail)
      refine syx_rnd (q + 1) rfl ?_
      (repeat' (first | exact SubR.nil | (apply SubR.same; with_reducible (focus ((repeat (first | exact Rem.here | apply Rem.there)); done))) | (apply SubR.blk; (focus ((repeat (first | exact Rem.here | apply Rem.there)); done))) | (apply SubR.pick; (focus ((repeat (first | exact Rem.here | apply Rem.there)); done))) | rfl))
      rw [hfs]
    · rintro q rfl
      rw [List.take_length]
      have hf8 : (fold s (blocks last l.length)).length = 8 := fold_len _ _ hs
      have hsum : ser (fold s (blocks last l.length)) = sum l := by
        have hq0 : last.length / 64 = 0 := by omega
        unfold sum fold
        rw [hS hl0]
        unfold blocks fold
        simp only [hq0, hlst, whole, List.nil_append, Nat.mul_zero, List.drop_zero, List.foldl_append]
      generalize fold s (blocks last l.length) = st at *
      have hs32 : (ser st).length = 32 := by rw [ser_len, hf8]
      repeat' (first | refine sy_seqC ?_ | refine syl_nil ?_ | refine sy_ret ?_ | refine syx_then ?_ | refine syx_go ?_ | (refine sy_region (id := 8) ?_; refine y_load ?_; refine yv (op_callV (hc := fun w' _ _ _ => bytes_any st w' hf8)) (k := ?_); refine y_store ?_) | fail)
      exact ret1 rfl (resCells rfl (ty rfl) rfl Has.go Seg.all (by first | rfl | (simp only [List.length_map, List.length_set, List.length_replicate, List.length_append]; omega) | (simp only [List.length_map]; first | assumption | omega) | (simp; omega) | fail)) SubR.nil ⟨by rw [hsum], rfl⟩
    · exact fun _ _ _ _ h => h.elim
end Go.Proofs.YtaeddmcoanefhaaGreatDoor
end
