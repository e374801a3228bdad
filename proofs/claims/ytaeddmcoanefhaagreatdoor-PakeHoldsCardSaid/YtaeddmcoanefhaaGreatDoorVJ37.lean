/- Layer mac, walked: Write, Sum, Copy of a keyed hash. -/
import Derived.Test.YtaeddmcoanefhaaGreatDoorVJ36
import Derived.Test.YtaeddmcoanefhaaGreatDoorVJ17
import Derived.Test.YtaeddmcoanefhaaGreatDoorVJ31
set_option linter.all false
section
namespace Go.Proofs.YtaeddmcoanefhaaGreatDoor
open Go Go.Sy Go.Sh Go.RowKit
attribute [local irreducible] Sy SyL SyX Sy.Fn callFunc Sh.sum kxor kpad kbase macA HashIs
set_option maxRecDepth 10000
theorem seg_pre' {B D : List Value} : Sy.Seg (B ++ D) 0 B := fun j v hj => by
  have := (List.getElem?_eq_some_iff.1 hj).1
  rw [Nat.zero_add, List.getElem?_append_left this]; exact hj
theorem mac_ready {S : Nat} {key l : List UInt8} {C : List Value} {w : World} (hC : (Res.blk S 141 C).holds w) (hI : MacIs key l C) : w.cell? ⟨S, 201, none⟩ = some (.bool true) := by
  obtain ⟨H, hH, rfl⟩ := hI
  rw [Sy.blk_cell hC, List.getElem?_append_right (by rw [macA_len]; omega), List.getElem?_append_right (by rw [macA_len, hH.len]; omega), macA_len, hH.len]; rfl
theorem wr_fn (S : Nat) (key l b : List UInt8) (C : List Value) (a0 : Option Addr) (n c : Nat) (w : World) (hC : (Res.blk S 141 C).holds w) (hI : MacIs key l C) (hn : b.length = n) (hc : n ≤ c)
    (hb : l.length + n < 100000000000) (hsl : SlF w (fun x => x = S) a0 (b.map Sy.v8)) (hT : Tab w (fun x => x = S)) :
    Sy.Fn Tryz.prog 66 [.pointer (some ⟨S, 0, none⟩), .slice a0 n c] w (fun x => x = S) (fun v R => v = .int .i64 0 ∧ ∃ C', MacIs key (l ++ b) C' ∧ R = [.blk S 141 C']) := by
  obtain ⟨H, hH, rfl⟩ := hI
  have h128 := macA_len key
  have h201 : (macA key ++ (H ++ [.bool true]))[201]? = some (.bool true) := by
    rw [List.getElem?_append_right (by omega), List.getElem?_append_right (by rw [hH.len]; omega), h128, hH.len]; rfl
  have hlen : (kxor (kpad key) 54 ++ l).length = 64 + l.length := by rw [List.length_append, kx64]
  have hL0 : Holds w.heap.size (fun x => x = S) [.blk S 141 (macA key ++ (H ++ [.bool true]))] w := ⟨fun x hx => by obtain rfl := List.mem_singleton.1 hx; exact hC, List.pairwise_singleton _ _, fun x hx y hy => by obtain rfl := List.mem_singleton.1 hx; exact .inr (Eq.symm hy)⟩
  refine fn_enter Tryz.func66 rfl Tryz.ntmps66 (by simp) hL0 ?_
  repeat' (first | refine sy_seqC ?_ | refine syl_nil ?_ | refine sy_if_f rfl ?_ | refine sy_skip ?_ | refine syx_then ?_ | refine syx_go ?_ | (refine sy_region (id := 0) ?_; refine y_assign ?_) | (refine sy_region (id := 1) ?_; refine y_move ?_; refine y_eql ?_; refine y_move ?_; refine y_move ?_; refine y_nilCheck ?_; refine y_fieldAddr ?_; refine yv (op_load (hv := h201)) (k := ?_); refine y_unOp ?_; refine y_pick ?_) | (refine sy_region (id := 3) ?_; refine y_move ?_; refine y_nilCheck ?_; refine y_fieldAddr ?_; refine y_move ?_) | fail)
  refine ys (op_callR (b := S) (Rel := fun C' => MacIs key (l ++ b) C') (v := .int .i64 0) (hc := fun w' X hk hh => ?_)) (k := ?_)
  · have := writeG_fn S 141 (macA key) [.bool true] (kxor (kpad key) 54 ++ l) b H a0 n c w' (hh.has (Has.append Has.here)) hH hn hc (by omega) (hsl.to hk (fun x hx => .inr hx)) (hT.to hk (fun x hx => .inr hx))
    rw [h128] at this
    exact this.mono fun v R ⟨h1, C', h2, h3⟩ => ⟨h1, _, ⟨C', by rw [← List.append_assoc]; exact h2, rfl⟩, h3⟩
  rintro _ _ ⟨rfl, C', hC', rfl⟩
  repeat' (first | refine syl_nil ?_ | refine sy_ret ?_ | refine syx_then ?_ | refine syx_go ?_ | (refine syl_id ?_; first | refine y_assign ?_ | fail) | fail)
  exact ret1 rfl (resTmp rfl) (by exact SubR.go) ⟨rfl, C', hC', rfl⟩
theorem smIn_fn (S : Nat) (key l : List UInt8) (H : List Value) (w : World) (hC : (Res.blk S 141 (macA key ++ (H ++ [.bool true]))).holds w) (hH : HashIs (kxor (kpad key) 54 ++ l) H) (hb : l.length < 100000000000) (hT : Tab w No) :
    Sy.Fn Tryz.prog 84 [.pointer (some ⟨S, 0 + 128, none⟩)] w No (Gives (.agg ((Sh.sum (kxor (kpad key) 54 ++ l)).map Sy.v8).toArray)) := by
  have := sumG_fn S 141 (macA key) [.bool true] (kxor (kpad key) 54 ++ l) H w hC hH (by rw [List.length_append, kx64]; omega) hT
  rw [macA_len] at this
  rw [Nat.zero_add]
  exact this
theorem sm_fn (S : Nat) (key l : List UInt8) (C : List Value) (w : World) (hC : (Res.blk S 141 C).holds w) (hI : MacIs key l C) (hb : l.length < 100000000000) (hT : Tab w No) :
    Sy.Fn Tryz.prog 67 [.pointer (some ⟨S, 0, none⟩)] w No (Gives (.tuple #[.agg ((hmac key l).map Sy.v8).toArray, .int .i64 0])) := by
  have h201 : w.cell? ⟨S, 0 + 201, none⟩ = some (.bool true) := mac_ready hC hI
  obtain ⟨H, hH, rfl⟩ := hI
  have h128 := macA_len key
  have hlen : (kxor (kpad key) 54 ++ l).length = 64 + l.length := by rw [List.length_append, kx64]
  have hs32 := sum_len (kxor (kpad key) 54 ++ l)
  have hm : hmac key l = Sh.sum (kxor (kpad key) 92 ++ Sh.sum (kxor (kpad key) 54 ++ l)) := rfl
  have hm32 : (hmac key l).length = 32 := sum_len _
  obtain ⟨s, hs⟩ : ∃ s, Sh.sum (kxor (kpad key) 54 ++ l) = s := ⟨_, rfl⟩
  rw [hs] at hs32 hm
  have hout : w.rangeAt S 0 ((kxor (kpad key) 92).map Sy.v8) := blk_range hC (by unfold macA; rw [List.append_assoc]; exact seg_pre')
  generalize hmac key l = y at *
  refine fn_enter Tryz.func67 rfl Tryz.ntmps67 (by simp) Holds.nil ?_
  have hold : ∀ w', Keep No w w' → (Res.blk S 141 (macA key ++ (H ++ [.bool true]))).holds w' := fun w' hk => Res.holds_congr hC (fun b hb => hk.block b (Res.own_lt hC hb) (fun h => h))
  repeat' (first | refine sy_seqC ?_ | refine syl_nil ?_ | refine sy_if_f rfl ?_ | refine sy_skip ?_ | refine sy_ret ?_ | refine syx_then ?_ | refine syx_go ?_ | (refine sy_region (id := 0) ?_; (refine y_new ?_; intro _); refine y_assign ?_) | (refine sy_region (id := 1) ?_; refine y_move ?_; refine y_eql ?_; refine y_move ?_; refine y_move ?_; refine y_nilCheck ?_; refine y_fieldAddr ?_; refine y_load ?_; refine y_unOp ?_; refine y_pick ?_) | (refine sy_draw (id := 3) 7 [[], [0], [0, 1], [], [3], [3, 4], [3, 4, 5], [0, 1, 2, 3, 4, 5, 6], [0, 1, 2, 3, 4, 5, 6, 7], [0, 1, 2, 3, 4, 5, 6, 7, 8]] mixed ?_ ?_; kernel_rfl; refine d_move ?_; refine d_nilCheck ?_; refine d_fieldAddr ?_; refine d_move ?_; refine d_nilCheck ?_; refine d_fieldAddr ?_; refine dc (fun _ _ => op_callV (hc := fun w' X hk hh => hs ▸ smIn_fn S key l H w' (hold w' hk) hH hb (hT.no hk))) (k := ?_); refine dh_0n ?_; refine yv (op_callV (hc := fun w' X hk hh => hm.symm ▸ finish_fn S (kxor (kpad key) 92) s w' (kx64 key 92) hs32 (range_keep hout hk (fun h => h)) (hT.no hk))) (k := ?_); refine y_store ?_; refine y_assign ?_) | fail)
  exact ret2 rfl (resCells rfl (ty rfl) rfl Has.go Seg.all (by first | rfl | (simp only [List.length_map, List.length_set, List.length_replicate, List.length_append]; omega) | (simp only [List.length_map]; first | assumption | omega) | (simp; omega) | fail)) (resTmp rfl) SubR.nil ⟨rfl, rfl⟩
end Go.Proofs.YtaeddmcoanefhaaGreatDoor
namespace Go.Proofs.YtaeddmcoanefhaaGreatDoor
open Go Go.Sy Go.Sh Go.RowKit
attribute [local irreducible] Sy SyL SyX Sy.Fn callFunc Sh.sum kxor kpad kbase macA HashIs MacIs hmac
set_option maxRecDepth 10000
abbrev zero32 : List Value := List.replicate 32 (Value.int .u8 0)
theorem hm_fn (a0 a1 : Option Addr) (n c m d : Nat) (key : List UInt8) (xs : List Bs) (w : World) (hn : key.length = n) (hb : n ≤ 4096) (hc : n ≤ c) (hsl : SlA w a0 (key.map Sy.v8)) (hm : xs.length = m) (hmb : m < 1000000) (hsx : SlA w a1 (xs.map Bs.val))
    (hxs : ∀ s ∈ xs, s.l.length = s.n ∧ s.n ≤ s.c ∧ SlA w s.a (s.l.map Sy.v8) ∧ s.n ≤ 10000) (hT : Tab w No) :
    Sy.Fn Tryz.prog 44 [.slice a0 n c, .slice a1 m d] w No (Gives (.tuple #[.agg ((hmac key (Bs.cat xs)).map Sy.v8).toArray, .int .i64 0])) := by
  refine fn_enter Tryz.func44 rfl Tryz.ntmps44 (by simp) Holds.nil ?_
  have hy32 := hmac_len key (Bs.cat xs)
  obtain ⟨y, hy⟩ : ∃ y, hmac key (Bs.cat xs) = y := ⟨_, rfl⟩
  rw [hy] at hy32 ⊢
  repeat' (first | refine sy_seqC ?_ | refine syl_nil ?_ | refine sy_if_f rfl ?_ | refine sy_block ?_ | refine sy_skip ?_ | refine syx_then ?_ | refine syx_go ?_ | (refine sy_region (id := 0) ?_; (refine y_new ?_; intro _); refine y_assign ?_) | (refine sy_region (id := 1) ?_; refine y_move ?_; (refine ys (op_call0 (hc := fun w' X hk hh => new_fn a0 n c key w' hn hb hc (hsl.keep hk (fun _ _ h => h)) (hT.no hk))) (k := ?_); rintro _ _ ⟨R, rfl, bm, C0, rfl, rfl, hC0⟩); refine y_move ?_; refine y_extract ?_; refine y_extract ?_; refine y_assign ?_; refine y_assign ?_) | (refine sy_region (id := 2) ?_; refine y_move ?_; refine y_neq ?_) | (refine sy_region (id := 4) ?_; refine y_move ?_; refine y_len ?_; refine y_move ?_) | fail)
  rename_i b4
  refine sy_loop (γ := Nat × List Value) (fun g => [(4, .pointer (some ⟨b4, 0, none⟩)), (5, .int .i64 0), (6, .pointer (some ⟨bm, 0, none⟩)), (19, .slice a1 m d), (20, .int .i64 m), (21, .int .i64 g.1)]) (fun g => [.blk bm 141 g.2, .blk b4 37 zero32])
    (fun g => g.1 ≤ m ∧ MacIs key (Bs.cat (xs.take g.1)) g.2) (fun g => m - g.1) (0, C0) ⟨Nat.zero_le _, hC0⟩ ?_ ?_ ?_
  · exact Sub.go
  · exact SubR.go
  rintro ⟨i, C⟩ ⟨hi, hC⟩
  dsimp only at *
  have hcl : (Bs.cat (xs.take i)).length ≤ 10000 * i := by
    have := Bs.cat_le (k := 10000) (xs.take i) (fun s hs => by have := hxs s (List.mem_of_mem_take hs); omega)
    rw [List.length_take, Nat.min_eq_left (by omega)] at this; exact this
  by_cases hlt : i < m
  · obtain ⟨bl, ol, rfl, hcell⟩ := Bs.get hsx (hm ▸ hlt)
    have hci := hcell i (hm ▸ hlt)
    have hcat := Bs.cat_succ xs i (hm ▸ hlt)
    obtain ⟨h1, h2, h3, h4⟩ := hxs xs[i] (List.getElem_mem _)
    generalize xs[i] = s at *
    obtain ⟨sa, sn, sc, sl⟩ := s
    dsimp only at *
    repeat' (first | refine sy_seqC ?_ | refine syl_nil ?_ | refine sy_if_t rfl ?_ | refine sy_block ?_ | refine sy_skip ?_ | refine syx_then ?_ | refine syx_go ?_ | (refine sy_region (id := 5) ?_; refine y_lss ?_) | (refine sy_region (id := 6) ?_; refine y_indexAddr ?_; refine yv (op_load_old (hv := hci)) (k := ?_); refine y_assign ?_) | (refine sy_region (id := 7) ?_; refine y_move ?_; refine y_move ?_) | fail)
    refine ys (op_callR (b := bm) (Rel := MacIs key (Bs.cat (xs.take i) ++ sl)) (hc := fun w' X hk hh => wr_fn bm key (Bs.cat (xs.take i)) sl C sa sn sc w' (hh.has (Has.append Has.here)) hC h1 h2 (by omega) (SlF.oldB h3 hk hh Has.here) (hT.to hk (hh.one Has.here)))) (k := ?_); rintro _ _ ⟨rfl, C', hC', rfl⟩
    repeat' (first | refine syl_nil ?_ | refine syx_then ?_ | refine syx_go ?_ | (refine sy_region (id := 8) ?_; refine y_add ?_; refine y_move ?_) | fail)
    refine syx_back (i + 1, C') ⟨hlt, by show MacIs key (Bs.cat (xs.take (i + 1))) C'; rw [hcat]; exact hC'⟩ ?_ ?_ ?_
    · show m - (i + 1) < m - i; omega
    · exact Sub.go
    · exact SubR.go
  obtain rfl : i = m := by omega
  rw [List.take_of_length_le (by omega)] at hC hcl
  repeat' (first | refine sy_seqC ?_ | refine syl_nil ?_ | refine sy_if_f rfl ?_ | refine sy_ret ?_ | refine sy_exit ?_ | refine syx_then ?_ | refine syx_go ?_ | (refine sy_region (id := 5) ?_; refine y_lss ?_) | (refine sy_region (id := 9) ?_; refine y_move ?_; refine yv (op_callV (hc := fun w' X hk hh => hy ▸ sm_fn bm key (Bs.cat xs) C w' (hh.has (Has.append Has.here)) hC (by omega) (hT.no hk))) (k := ?_); refine y_extract ?_; refine y_extract ?_; refine y_store ?_; refine y_assign ?_) | fail)
  exact ret2 rfl (resCells rfl (ty rfl) rfl Has.go Seg.all (by first | rfl | (simp only [List.length_map, List.length_set, List.length_replicate, List.length_append]; omega) | (simp only [List.length_map]; first | assumption | omega) | (simp; omega) | fail)) (resTmp rfl) SubR.nil ⟨rfl, rfl⟩
theorem or_zero (d z : UInt8) : d ||| z = 0 ↔ d = 0 ∧ z = 0 := by
  rw [← UInt8.toBitVec_inj, ← UInt8.toBitVec_inj (a := d), ← UInt8.toBitVec_inj (a := z)]
  exact BitVec.or_eq_zero_iff
theorem xor_zero (x y : UInt8) : x ^^^ y = 0 ↔ x = y := by
  rw [← UInt8.toBitVec_inj, ← UInt8.toBitVec_inj (a := x)]
  exact BitVec.xor_eq_zero_iff
theorem SlA.get {w : World} {a : Option Addr} {l : List UInt8} (h : SlA w a (l.map Sy.v8)) (hl : l ≠ []) : ∃ b off, a = some ⟨b, off, none⟩ ∧ ∀ i x, l[i]? = some x → w.cell? ⟨b, off + i, none⟩ = some (.int .u8 (Wd.n8 x)) := by
  rcases h with h | ⟨b, off, rfl, h⟩
  · exact absurd (List.map_eq_nil_iff.1 h) hl
  · exact ⟨b, off, rfl, fun i x hx => h i _ (by rw [List.getElem?_map, hx]; rfl)⟩
theorem same_fn (a0 a1 : Option Addr) (n c m d : Nat) (l k : List UInt8) (w : World) (hn : l.length = n) (hb : n < 1000000000000) (hsl : SlA w a0 (l.map Sy.v8)) (hm : k.length = m) (hmb : m < 1000000000000) (hsk : SlA w a1 (k.map Sy.v8)) :
    Sy.Fn Tryz.prog 61 [.slice a0 n c, .slice a1 m d] w No (Gives (.bool (decide (l = k)))) := by
  refine fn_enter Tryz.func61 rfl Tryz.ntmps61 (by simp) Holds.nil ?_
  by_cases hne : n = m
  · subst hne
    repeat' (first | refine sy_seqC ?_ | refine syl_nil ?_ | refine sy_if_f rfl ?_ | refine sy_block ?_ | refine sy_skip ?_ | refine syx_then ?_ | refine syx_go ?_ | (refine sy_region (id := 0) ?_; refine y_assign ?_) | (refine sy_region (id := 1) ?_; refine y_move ?_; refine y_len ?_; refine y_move ?_; refine y_len ?_; refine y_neq ?_) | (refine sy_region (id := 3) ?_; refine y_assign ?_) | (refine sy_region (id := 4) ?_; refine y_move ?_; refine y_len ?_; refine y_move ?_) | fail)
    refine sy_loop (γ := Nat × UInt8) (fun g => [(0, .slice a0 n c), (1, .slice a1 n d), (5, Sy.v8 g.2), (13, .int .i64 n), (14, .int .i64 g.1)]) (fun _ => []) (fun g => g.1 ≤ n ∧ (g.2 = 0 ↔ l.take g.1 = k.take g.1)) (fun g => n - g.1) (0, 0) ⟨Nat.zero_le _, by simp⟩ ?_ ?_ ?_
    · exact Sub.go
    · exact SubR.go
    rintro ⟨i, df⟩ ⟨hi, hd⟩
    dsimp only at *
    by_cases hlt : i < n
    · obtain ⟨b1, o1, rfl, hg1⟩ := SlA.get hsl (fun h => by subst h; simp at hn; omega)
      obtain ⟨b2, o2, rfl, hg2⟩ := SlA.get hsk (fun h => by subst h; simp at hm; omega)
      obtain ⟨x, hx⟩ : ∃ x, l[i]? = some x := ⟨l[i]'(by omega), List.getElem?_eq_getElem _⟩
      obtain ⟨y, hy⟩ : ∃ y, k[i]? = some y := ⟨k[i]'(by omega), List.getElem?_eq_getElem _⟩
      have hx1 := hg1 i x hx
      have hy1 := hg2 i y hy
      repeat' (first | refine sy_seqC ?_ | refine syl_nil ?_ | refine sy_if_t rfl ?_ | refine sy_block ?_ | refine sy_skip ?_ | refine syx_then ?_ | refine syx_go ?_ | (refine sy_region (id := 5) ?_; refine y_lss ?_) | (refine sy_region (id := 6) ?_; refine y_move ?_; refine y_assign ?_) | (refine sy_draw (id := 7) 10 [[], [], [], [1, 2], [1, 2, 3], [], [], [5, 6], [5, 6, 7], [1, 2, 3, 4, 5, 6, 7, 8], [0, 1, 2, 3, 4, 5, 6, 7, 8, 9], [0, 1, 2, 3, 4, 5, 6, 7, 8, 9, 10]] mixed ?_ ?_; kernel_rfl; refine d_move ?_; refine d_move ?_; refine d_move ?_; refine d_indexAddr ?_; refine dc (fun _ _ => op_load_old (hv := hx1)) (k := ?_); refine d_move ?_; refine d_move ?_; refine d_indexAddr ?_; refine dc (fun _ _ => op_load_old (hv := hy1)) (k := ?_); refine dc (fun _ _ => op_xor (hr := Wd.xor8 x y)) (k := ?_); refine dh_0n ?_; refine yv (op_or (hr := Wd.or8 df (x ^^^ y))) (k := ?_); refine y_assign ?_) | (refine sy_region (id := 8) ?_; refine y_add ?_; refine y_move ?_) | fail)
      refine syx_back (i + 1, df ||| (x ^^^ y)) ⟨hlt, ?_⟩ ?_ ?_ ?_
      · rw [or_zero, xor_zero, hd, List.take_add_one, List.take_add_one, hx, hy]
        simp only [Option.toList_some]
        constructor
        · rintro ⟨h1, rfl⟩; rw [h1]
        · intro h
          have := List.append_inj h (by simp; omega)
          exact ⟨this.1, by simpa using this.2⟩
      · show n - (i + 1) < n - i; omega
      · exact Sub.go
      · exact SubR.go
    obtain rfl : i = n := by omega
    rw [List.take_of_length_le (by omega), List.take_of_length_le (by omega)] at hd
    have hr : decide (Wd.n8 df = 0) = decide (l = k) := by
      rw [decide_eq_decide, ← hd]
      exact ⟨fun h => Wd.n8_inj (y := 0) h, fun h => by subst h; rfl⟩
    repeat' (first | refine sy_seqC ?_ | refine syl_nil ?_ | refine sy_if_f rfl ?_ | refine sy_ret ?_ | refine sy_exit ?_ | refine syx_then ?_ | refine syx_go ?_ | (refine sy_region (id := 5) ?_; refine y_lss ?_) | (refine sy_region (id := 9) ?_; refine y_move ?_; refine yv (op_eql (hr := hr)) (k := ?_); refine y_assign ?_) | fail)
    exact ret1 rfl (resTmp rfl) SubR.nil ⟨rfl, rfl⟩
  · have hlk : decide (l = k) = false := decide_eq_false (fun h => hne (by rw [← hn, ← hm, h]))
    rw [hlk]
    repeat' (first | refine sy_seqC ?_ | refine syl_nil ?_ | refine sy_if_t rfl ?_ | refine sy_ret ?_ | refine syx_then ?_ | refine syx_go ?_ | refine syx_then_ret ?_ | (refine sy_region (id := 0) ?_; refine y_assign ?_) | (refine sy_region (id := 1) ?_; refine y_move ?_; refine y_len ?_; refine y_move ?_; refine y_len ?_; refine y_neq ?_) | (refine sy_region (id := 2) ?_; refine y_assign ?_) | fail)
    exact ret1 rfl (resTmp rfl) SubR.nil ⟨rfl, rfl⟩
theorem equal_fn (a0 a1 : Option Addr) (n c m d : Nat) (l k : List UInt8) (w : World) (hn : l.length = n) (hb : n < 1000000000000) (hsl : SlA w a0 (l.map Sy.v8)) (hm : k.length = m) (hmb : m < 1000000000000) (hsk : SlA w a1 (k.map Sy.v8)) :
    Sy.Fn Tryz.prog 38 [.slice a0 n c, .slice a1 m d] w No (Gives (.bool (decide (l = k)))) := by
  refine fn_enter Tryz.func38 rfl Tryz.ntmps38 (by simp) Holds.nil ?_
  repeat' (first | refine sy_seqC ?_ | refine syl_nil ?_ | refine sy_ret ?_ | refine syx_then ?_ | refine syx_go ?_ | (refine sy_region (id := 0) ?_; refine y_assign ?_) | (refine sy_region (id := 1) ?_; refine y_move ?_; refine y_move ?_; refine yv (op_callV (hc := fun w' X hk hh => same_fn a0 a1 n c m d l k w' hn hb (hsl.keep hk (fun _ _ h => h)) hm hmb (hsk.keep hk (fun _ _ h => h)))) (k := ?_); refine y_assign ?_) | fail)
  exact ret1 rfl (resTmp rfl) SubR.nil ⟨rfl, rfl⟩
end Go.Proofs.YtaeddmcoanefhaaGreatDoor
namespace Go.Proofs.YtaeddmcoanefhaaGreatDoor
open Go Go.Sy Go.Sh Go.RowKit
attribute [local irreducible] Sy SyL SyX Sy.Fn callFunc Sh.sum kxor kpad kbase macA HashIs MacIs hmac
set_option maxRecDepth 10000
def PartsOk (w : World) (a1 : Option Addr) (m : Nat) (xs : List Bs) : Prop := xs.length = m ∧ m < 1000000 ∧ SlA w a1 (xs.map Bs.val) ∧ ∀ s ∈ xs, s.l.length = s.n ∧ s.n ≤ s.c ∧ SlA w s.a (s.l.map Sy.v8) ∧ s.n ≤ 10000
theorem parts_blk {w : World} {M : Nat → Prop} {L X : List Res} {B0 bp E m : Nat} {xs : List Bs} (hh : Holds B0 M (L ++ X) w) (hL : Has L (.blk bp E (xs.map Bs.val))) (hm : xs.length = m) (hmb : m < 1000000)
    (hxs : ∀ s ∈ xs, s.l.length = s.n ∧ s.n ≤ s.c ∧ SlA w s.a (s.l.map Sy.v8) ∧ s.n ≤ 10000) : PartsOk w (some ⟨bp, 0, none⟩) m xs :=
  ⟨hm, hmb, .inr ⟨bp, 0, rfl, blk_range (hh.has (Has.append hL)) Seg.all⟩, hxs⟩
theorem part1 {w : World} {s : Bs} (h : s.l.length = s.n ∧ s.n ≤ s.c ∧ SlA w s.a (s.l.map Sy.v8) ∧ s.n ≤ 10000) : ∀ x ∈ [s], x.l.length = x.n ∧ x.n ≤ x.c ∧ SlA w x.a (x.l.map Sy.v8) ∧ x.n ≤ 10000 := fun x hx => by
  obtain rfl := List.mem_singleton.1 hx; exact h
theorem cat1 (s : Bs) : Bs.cat [s] = s.l := by simp [Bs.cat]
end Go.Proofs.YtaeddmcoanefhaaGreatDoor
end
section
namespace Go.Sh
open Go Go.Sy
def ArgN (T : Nat) (_ : Nat → Prop) (x : Nat × List UInt8) (vs : List Value) (RA : List Res) (_ : World) : Prop := ∃ b, vs = [.int .i64 x.1, .slice (some ⟨b, 0, none⟩) 32 32] ∧ RA = [.blk b T (x.2.map Sy.v8)]
def numbered (f : Nat → List UInt8) (q : Nat) : List (Nat × List UInt8) := (List.range q).map fun i => (i + 1, f (i + 1))
theorem numbered_len (f : Nat → List UInt8) (q : Nat) : (numbered f q).length = q := by unfold numbered; simp
theorem numbered_get (f : Nat → List UInt8) (q k : Nat) (h : k < (numbered f q).length) : (numbered f q)[k] = (k + 1, f (k + 1)) := by
  have : (numbered f q)[k]? = some (k + 1, f (k + 1)) := by
    rw [numbered_len] at h
    unfold numbered
    rw [List.getElem?_map, List.getElem?_range h]; rfl
  rw [List.getElem?_eq_getElem h] at this
  exact Option.some.inj this
end Go.Sh
namespace Go.Proofs.YtaeddmcoanefhaaGreatDoor
open Go Go.Sy Go.Sh Go.RowKit
attribute [local irreducible] Sy SyL SyX Sy.Fn callFunc Sh.sum kxor kpad kbase macA HashIs MacIs hmac
set_option maxRecDepth 10000
theorem shrI (x k : Nat) (kk : IntKind) (h : k < 64) : Op.shift .shr .i64 (x : Int) kk (k : Int) = pure (.int .i64 ((x / 2 ^ k : Nat) : Int)) := by
  rw [shift_shr_any _ _ _ _ (Int.natCast_nonneg _)]; congr 2
  rw [Int.toNat_natCast, show min k IntKind.i64.bits = k from Nat.min_eq_left (Nat.le_of_lt h), Int.natCast_ediv, Int.natCast_pow]; rfl
theorem v8_of (x : Nat) : IntKind.u8.wrap (x : Int) = Wd.n8 (UInt8.ofNat x) := by rw [Wd.wrap_u8_nat, Wd.n8_of_nat]
theorem number_fn (v : Nat) (w : World) (hv : v < 4294967296) : Sy.Fn Tryz.prog 95 [.int .i64 v] w No (fun r R => ∃ b, r = .slice (some ⟨b, 0, none⟩) 4 4 ∧ R = [.blk b 5 ((four v).map Sy.v8)]) := by
  refine fn_enter Tryz.func95 rfl Tryz.ntmps95 (by simp) Holds.nil ?_
  repeat' (first | refine sy_seqC ?_ | refine syl_nil ?_ | refine sy_ret ?_ | refine syx_then ?_ | refine syx_go ?_ | (refine sy_region (id := 0) ?_; refine y_assign ?_) | (refine sy_region (id := 1) ?_; refine y_move ?_; refine yv (op_shr (hr := shrI v 24 _ (by decide))) (k := ?_); refine yv (op_conv (hr := v8_of _)) (k := ?_); refine y_move ?_; refine yv (op_shr (hr := shrI v 16 _ (by decide))) (k := ?_); refine yv (op_conv (hr := v8_of _)) (k := ?_); refine y_move ?_; refine yv (op_shr (hr := shrI v 8 _ (by decide))) (k := ?_); refine yv (op_conv (hr := v8_of _)) (k := ?_); refine y_move ?_; refine yv (op_conv (hr := v8_of _)) (k := ?_); (refine ys op_buildSlice (k := ?_); rintro _ _ ⟨_, rfl, rfl⟩); refine y_assign ?_) | fail)
  exact ret1 rfl (resTmp rfl) (by exact SubR.go) ⟨_, rfl, rfl⟩
theorem numbered1_it (b1 bf : Nat) (fst cap : List Value) (f : Nat → List UInt8) (q : Nat) (w : World) (M : Nat → Prop) (hcell : w.cell? ⟨b1, 0, none⟩ = some (.func (.func bf) fst.toArray cap.toArray)) (hn : ¬ M b1) (hq : q < 100000) (h32 : ∀ i, (f i).length = 32)
    (en : ∀ args w, (callFunc bf args).run Tryz.prog w = .ok (.enter bf args) w) (hb : ∀ w' i, Keep M w w' → 1 ≤ i → i ≤ q → Sy.Fn Tryz.prog bf (fst ++ [.int .i64 (i : Nat)] ++ cap) w' No (Gives (.agg ((f i).map Sy.v8).toArray))) :
    IterE True Tryz.prog 94 [.pointer (some ⟨b1, 0, none⟩)] (numbered f q) (ArgN 37) w M [] := by
  intro lp J Jx j0 hnv hJ0 hh hY
  have hnv := hnv trivial
  rw [numbered_len] at hnv
  refine fn_enter Tryz.func94 rfl Tryz.ntmps94 (by simp) hh ?_
  repeat' (first | refine sy_seqC ?_ | refine syl_nil ?_ | refine sy_block ?_ | refine syx_then ?_ | refine syx_go ?_ | (refine sy_region (id := 0) ?_; refine y_assign ?_) | fail)
  refine sy_loop (γ := Nat × Res) (fun g => [(0, .func (.yield lp) #[] #[]), (1, .pointer (some ⟨b1, 0, none⟩)), (3, .int .i64 ((g.1 + 1 : Nat) : Int))]) (fun g => [g.2]) (fun g => g.1 ≤ q ∧ J g.1 g.2) (fun g => q - g.1) (0, j0) ⟨Nat.zero_le _, hJ0⟩ ?_ ?_ ?_
  · exact Sub.go
  · exact SubR.go
  rintro ⟨k, j⟩ ⟨hk, hJ⟩
  dsimp only at hk hJ ⊢
  have hkq : k < q := by
    rcases Nat.lt_or_ge k q with h | h
    · exact h
    · obtain rfl : k = q := by omega
      exact (hnv j hJ).elim
  have hf := h32 (k + 1)
  have hkx : k < (numbered f q).length := by rw [numbered_len]; exact hkq
  have hx : (numbered f q)[k] = (k + 1, f (k + 1)) := numbered_get f q k hkx
  repeat' (first | refine sy_seqC ?_ | refine syl_nil ?_ | refine sy_block ?_ | refine syx_then ?_ | refine syx_go ?_ | (refine sy_region (id := 2) ?_; refine yv (op_load_old (hv := hcell) (hn := hn)) (k := ?_); refine y_move ?_; refine yv (op_callFV (he := en) (hc := fun w' X hk hh => hb w' (k + 1) hk (by omega) (by omega))) (k := ?_); (refine y_new ?_; intro _); refine y_store ?_) | (refine syl_id ?_; first | refine y_move ?_ | fail) | refine sy_region ?_ | fail)
  rename_i b4
  repeat' (first | refine syl_nil ?_ | refine sy_if_t rfl ?_ | refine sy_if_f rfl ?_ | refine sy_skip ?_ | refine sy_ret ?_ | refine syx_then ?_ | refine syx_go ?_ | refine syx_then_ret ?_ | refine syx_in_ret ?_ | (refine syl_id ?_; first | (refine ys (op_yield hY hkx hJ (hL := RemL.cons (by exact Rem.there Rem.here) rfl (RemL.cons (by exact Rem.here) rfl RemL.nil)) (harg := fun w' X _ _ => by rw [hx]; exact ⟨b4, rfl, rfl⟩)) (k := ?_); rintro _ _ ⟨y, j', rfl, rfl, hy⟩; cases y) | refine y_move ?_ | refine y_slice ?_ | refine y_unOp ?_ | fail) | refine sy_region ?_ | fail)
  · repeat' (first | fail)
    exact ret0 rfl (by exact SubR.go) ⟨j', rfl, .inr ⟨k + 1, by omega, hy⟩⟩
  · repeat' (first | refine syl_nil ?_ | refine syx_then ?_ | (refine syl_id ?_; first | refine y_assign ?_ | refine y_add ?_ | fail) | fail)
    refine syx_back (k + 1, j') ⟨hkq, hy⟩ ?_ ?_ ?_
    · show q - (k + 1) < q - k; omega
    · exact Sub.go
    · exact SubR.go
theorem numbered_fn (bf : Nat) (fst cap : List Value) (w : World) : Sy.Fn Tryz.prog 70 [.func (.func bf) fst.toArray cap.toArray] w No (fun v R => ∃ b1, v = .func (.func 94) #[] #[.pointer (some ⟨b1, 0, none⟩)] ∧ R = [.blk b1 116 [.func (.func bf) fst.toArray cap.toArray]]) := by
  refine fn_enter Tryz.func70 rfl Tryz.ntmps70 (by simp) Holds.nil ?_
  repeat' (first | refine sy_seqC ?_ | refine syl_nil ?_ | refine sy_ret ?_ | refine syx_then ?_ | refine syx_go ?_ | (refine sy_region (id := 0) ?_; (refine y_new ?_; intro _); refine y_assign ?_) | (refine sy_region (id := 1) ?_; refine y_makeFunc ?_; refine y_assign ?_) | fail)
  exact ret1 rfl (resTmp rfl) (by exact SubR.go) ⟨_, rfl, rfl⟩
theorem first_fn (n gf : Nat) (lb : List Value) (f : Nat → List UInt8) (w : World) (h1 : 1 ≤ n) (h2 : n ≤ 100000) (h32 : ∀ i, (f i).length = 32) (eg : ∀ args w, (callFunc gf args).run Tryz.prog w = .ok (.enter gf args) w)
    (hit : ∀ (w' : World) (Mi : Nat → Prop), Keep No w w' → (∀ b, Mi b → w.heap.size ≤ b) → IterE True Tryz.prog gf lb (numbered f ((n + 31) / 32)) (ArgN 37) w' Mi []) :
    Sy.Fn Tryz.prog 69 [.int .i64 n, .func (.func gf) #[] lb.toArray] w No (fun v R => ∃ a k, v = .slice a n k ∧ R = [.row (.slice a n k) 5 1 n ((firstN f n).map Sy.v8)]) := by
  refine fn_enter Tryz.func69 rfl Tryz.ntmps69 (by simp) Holds.nil ?_
  repeat' (first | refine sy_seqC ?_ | refine syl_nil ?_ | refine sy_block ?_ | refine sy_label ?_ | refine syx_then ?_ | refine syx_go ?_ | refine sy_scope ?_ | (refine sy_region (id := 0) ?_; (refine y_new ?_; intro _); refine y_assign ?_) | (refine sy_region (id := 1) ?_; (refine y_new ?_; intro _)) | (refine sy_region (id := 2) ?_; refine y_move ?_) | fail)
  rename_i b2 b5
  have hq : 32 * ((n + 31) / 32) ≥ n := by omega
  have hxl := numbered_len f ((n + 31) / 32)
  have hrl := rows_len f h32
  refine sy_conv (conv_nil 5 1) ?_
  refine sy_rangeE True (γ := Nat × Option Addr × Nat) (xs := numbered f ((n + 31) / 32)) (Arg := ArgN 37) entered_outer rfl eg rfl (fun k s => s.1 = k ∧ 32 * k < n) (fun cc k s => cc = .exit 0 ∧ s.1 = k ∧ n ≤ 32 * k ∧ k ≤ (n + 31) / 32)
    (fun s => [.blk b5 22 [.slice s.2.1 (32 * s.1) s.2.2], .row (.slice s.2.1 (32 * s.1) s.2.2) 5 1 (32 * s.1) ((rows f s.1).map Sy.v8), .blk b2 3 [.int .i64 n]]) [] [] (0, none, 0) ?_ ?_ ?_ ?_ ?_ ?_ ?_ ?_
  · exact ⟨rfl, by omega⟩
  · exact List.Perm.swap _ _ _
  · exact fun w' Mi X hk hm _ _ => hit w' Mi hk (fun b hb => (hm b hb).resolve_right (fun h => h))
  · exact fun _ s h => by
      obtain ⟨_, h⟩ := h
      rw [hxl] at h; omega
  · rintro O x vs RA w' ⟨b, rfl, _⟩; rfl
  · rintro lp k hk ⟨i, a, c⟩ vs RA W rec hrec ⟨hi, hlt⟩ harg hkW hmine
    rw [numbered_get] at harg
    obtain ⟨bx, rfl, rfl⟩ := harg
    rw [hxl] at hk
    dsimp only at hi hlt ⊢
    subst hi
    have hf := h32 (i + 1)
    have hys : (rows f i).map Sy.v8 ++ (f (i + 1)).map Sy.v8 = (rows f (i + 1)).map Sy.v8 := by rw [rows_succ, List.map_append]
    have hkm : 32 * i + 32 = 32 * (i + 1) := by omega
    generalize f (i + 1) = x at *
    by_cases hge : n ≤ 32 * (i + 1)
    · repeat' (first | refine sy_seqC ?_ | refine syl_nil ?_ | refine sy_if_t rfl ?_ | refine sy_block ?_ | refine sy_exit ?_ | refine syx_then ?_ | refine syx_go ?_ | refine syx_in_past rfl ?_ | (apply syx_begin; (focus ((repeat (first | exact Rem.here | apply Rem.there)); done)); assumption) | (refine sy_region (id := 3) ?_; refine y_assign ?_) | (refine sy_region (id := 4) ?_; refine y_load ?_; refine y_move ?_; (refine ys (op_append (k := 32 * i) (m := 32) (hn := by rw [List.length_map, hf]) (hkm := hkm) (hys := hys)) (k := ?_); rintro _ _ ⟨rfl, aN, cN, rfl⟩); refine y_store ?_) | (refine sy_region (id := 5) ?_; refine y_load ?_; refine y_len ?_; refine y_load ?_; refine y_geq ?_) | fail)
      refine syx_rnd_exit (i + 1, aN, cN) ⟨rfl, rfl, hge, by omega⟩ ?_
      exact SubR.go
    · repeat' (first | refine sy_seqC ?_ | refine syl_nil ?_ | refine sy_if_f rfl ?_ | refine sy_block ?_ | refine sy_skip ?_ | refine syx_then ?_ | refine syx_go ?_ | refine syx_in ?_ | (apply syx_begin; (focus ((repeat (first | exact Rem.here | apply Rem.there)); done)); assumption) | (refine sy_region (id := 3) ?_; refine y_assign ?_) | (refine sy_region (id := 4) ?_; refine y_load ?_; refine y_move ?_; (refine ys (op_append (k := 32 * i) (m := 32) (hn := by rw [List.length_map, hf]) (hkm := hkm) (hys := hys)) (k := ?_); rintro _ _ ⟨rfl, aN, cN, rfl⟩); refine y_store ?_) | (refine sy_region (id := 5) ?_; refine y_load ?_; refine y_len ?_; refine y_load ?_; refine y_geq ?_) | fail)
      refine syx_rnd (i + 1, aN, cN) ⟨rfl, by omega⟩ ?_
      exact SubR.go
  · rintro s ⟨_, h⟩
    rw [hxl] at h; omega
  · rintro _ k ⟨i, a, c⟩ hk ⟨rfl, hi, hge, hk2⟩
    dsimp only at hi hge ⊢
    subst hi
    refine sy_fact (fun w' hh => (⟨Row.cap hh (Has.there Has.here), Row.nil hh (Has.there Has.here)⟩ : 32 * i ≤ c ∧ (a = none → c = 0 ∧ 32 * i = 0))) fun hcn => ?_
    obtain ⟨hcap, hnl⟩ := hcn
    have hfn := firstN_of f h32 n i hge
    have hrl' := hrl i
    generalize rows f i = rw at *
    repeat' (first | refine sy_seqC ?_ | refine syl_nil ?_ | refine sy_ret ?_ | refine sy_exit ?_ | refine syx_then ?_ | refine syx_go ?_ | refine syx_ng_r ?_ | (refine sy_region (id := 6) ?_; refine y_load ?_; refine y_load ?_; refine yv (op_sliceR (l := 0) (h := n) (n' := n)) (k := ?_); (refine ys (op_call0 (hc := fun w' X hk hh => clone_fn a n c (rw.take n) w' (by rw [List.length_take]; omega) (by omega) (by rw [List.map_take]; exact ((Rd.row (Has.there Has.here)).take n) w' X hk hh) (fun h => ⟨(hnl h).1, by have := (hnl h).2; omega⟩))) (k := ?_); rintro _ _ ⟨R, rfl, ac, kc, rfl, rfl⟩); refine y_assign ?_) | fail)
    rw [hfn]
    exact ret1 rfl (resTmp rfl) (by exact SubR.go) ⟨_, _, rfl, rfl⟩
end Go.Proofs.YtaeddmcoanefhaaGreatDoor
end
