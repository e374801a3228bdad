/- Layer mac, walked: New, Write, Sum, Copy. -/
import Derived.Test.YtcahnkdnhejkkaaDoorMac
set_option linter.all false
namespace Go.Proofs.YtcahnkdnhejkkaaDoor
open Go Go.Sy Go.Sh Go.RowKit
attribute [local irreducible] Sy SyL SyX Sy.Fn callFunc Sh.sum kxor kpad kbase
set_option maxRecDepth 10000
theorem kpad_short (key : List UInt8) (h : key.length ≤ 64) : (key.map Sy.v8) ++ (List.replicate 64 (Value.int .u8 0)).drop key.length = (kpad key).map Sy.v8 := by
  unfold kpad kbase
  rw [if_neg (by omega), List.map_append, List.map_replicate, List.drop_replicate]; rfl
theorem kpad_big (key : List UInt8) (h : 64 < key.length) : ((Sh.sum key).map Sy.v8) ++ (List.replicate 64 (Value.int .u8 0)).drop 32 = (kpad key).map Sy.v8 := by
  unfold kpad kbase
  rw [if_pos h, List.map_append, List.map_replicate, List.drop_replicate, sum_len]; rfl
def macZ : List Value := List.replicate 128 (.int .u8 0 : Value) ++ List.replicate 8 (.int .u32 0 : Value) ++ List.replicate 64 (.int .u8 0 : Value) ++ [.int .i64 0] ++ [.bool false]
def hashZ : List Value := List.replicate 8 (.int .u32 0) ++ (List.replicate 64 (.int .u8 0) ++ [.int .i64 0])
theorem mac_fill (key : List UInt8) : FillTo (nth [(0, 128), (128, 73), (201, 1)]) [(0, .agg (macA key).toArray), (2, .bool true)] macZ (macA key ++ (hashZ ++ [.bool true])) := by
  have h := macA_len key
  have hz : hashZ.length = 73 := rfl
  have hZ : macZ.length = 202 := rfl
  have e1 : setSeg macZ 0 (macA key) = macA key ++ (hashZ ++ [.bool false]) := by
    rw [setSeg0, h]; rfl
  have e2 : setSeg (macA key ++ (hashZ ++ [.bool false])) 201 [.bool true] = macA key ++ (hashZ ++ [.bool true]) := by
    unfold setSeg
    rw [← List.append_assoc, List.take_left' (by rw [List.length_append, h, hz]), List.drop_of_length_le (by simp [h, hz]), List.append_nil, List.append_assoc]
  refine FillTo.cons (cs := macA key) rfl rfl h (by rw [hZ]; decide) ?_
  rw [e1]
  refine FillTo.cons (cs := [.bool true]) rfl rfl rfl (by simp [h, hz]) ?_
  rw [e2]
  exact FillTo.nil
set_option maxHeartbeats 1000000 in
theorem new_fn (a0 : Option Addr) (n c : Nat) (key : List UInt8) (w : World) (hn : key.length = n) (hb : n ≤ 4096) (hc : n ≤ c) (hsl : SlA w a0 (key.map Sy.v8)) (hT : Tab w No) :
    Sy.Fn Tryd.prog 39 [.slice a0 n c] w No (fun v R => ∃ b C, v = .tuple #[.pointer (some ⟨b, 0, none⟩), .int .i64 0] ∧ R = [.blk b 69 C] ∧ MacIs key [] C) := by
  refine fn_enter Tryd.func39 rfl Tryd.ntmps39 (by simp) Holds.nil ?_
  have hs32 := sum_len key
  have hshort := kpad_short key
  have hlong := kpad_big key
  have hp64 := kpad_len key hs32
  have hl64 : (kpad key).length = 64 := hp64
  obtain ⟨s, hs⟩ : ∃ s, Sh.sum key = s := ⟨_, rfl⟩
  rw [hs] at hs32 hlong
  have hset1 : 64 < key.length → setSeg (List.replicate 64 (Value.int .u8 0)) 0 (s.map Sy.v8) = (kpad key).map Sy.v8 := fun h => by rw [setSeg0, List.length_map, hs32]; exact hlong h
  have hset2 : key.length ≤ 64 → setSeg (List.replicate 64 (Value.int .u8 0)) 0 (key.map Sy.v8) = (kpad key).map Sy.v8 := fun h => by rw [setSeg0, List.length_map]; exact hshort h
  repeat' (first | refine sy_seqC ?_ | refine syl_nil ?_ | refine sy_if_t rfl ?_ | refine sy_if_f rfl ?_ | refine sy_block ?_ | refine sy_skip ?_ | refine sy_ret ?_ | refine sy_exit ?_ | refine sy_label ?_ | refine syx_then ?_ | refine syx_go ?_ | refine syx_then_ret ?_ | refine syx_then_exit ?_ | refine syx_in ?_ | refine syx_in_ret ?_ | refine syx_in_here ?_ | refine syx_in_past rfl ?_ | (apply syx_begin; (focus ((repeat (first | exact Rem.here | apply Rem.there)); done)); assumption) | (refine sy_region (id := 0) ?_; try refine y_assign ?_; try refine y_assign ?_) | (refine sy_region (id := 1) ?_; try refine y_move ?_; try refine y_len ?_; try refine y_gtr ?_) | (refine sy_region (id := 2) ?_; try refine y_assign ?_; try refine y_assign ?_) | (refine sy_region (id := 3) ?_; try (refine y_new ?_; intro _)) | (refine sy_region (id := 4) ?_; try refine y_move ?_; try refine y_len ?_; try refine y_gtr ?_) | (refine syl_id ?_; first | refine y_move ?_ | refine y_gtr ?_ | refine y_assign ?_ | refine y_len ?_ | (refine y_new ?_; intro _) | fail) | refine sy_region ?_ | fail)
  rename_i b4
  refine sy_cut (γ := Unit) (fun _ => [(4, .pointer (some ⟨b4, 0, none⟩))]) (fun _ => [.blk b4 36 ((kpad key).map Sy.v8)]) (fun _ => True) ?_ ?_
  · refine sy_cond rfl (fun h => ?_) (fun h => ?_)
    · have h := of_decide_eq_true h
      repeat' (first | refine sy_seqC ?_ | refine syl_nil ?_ | refine sy_if_t rfl ?_ | refine sy_if_f rfl ?_ | refine sy_block ?_ | refine sy_skip ?_ | refine sy_ret ?_ | refine sy_exit ?_ | refine sy_label ?_ | refine syx_then ?_ | refine syx_go ?_ | refine syx_then_ret ?_ | refine syx_then_exit ?_ | refine syx_in ?_ | refine syx_in_ret ?_ | refine syx_in_here ?_ | refine syx_in_past rfl ?_ | (apply syx_begin; (focus ((repeat (first | exact Rem.here | apply Rem.there)); done)); assumption) | (refine sy_region (id := 5) ?_; try refine y_move ?_; try refine yv (op_callV (hc := fun w' X hk hh => hs ▸ sum_fn a0 n c key w' hn hc (by omega) (hsl.keep hk (fun _ _ h => h)) (hT.no hk))) (k := ?_); try (refine y_new ?_; intro _); try refine y_store ?_) | (refine sy_draw (id := 6) 2 [[], [], [0, 1]] mixed ?_ ?_; kernel_rfl; try refine d_slice ?_; try refine d_slice ?_; try refine dh_0n ?_; try refine yv (op_copyC (B := s.map Sy.v8) (k := 32) (hr := Rd.of (Reads.blk Has.here Seg.all)) (hk := by rw [List.length_map, hs32]) (hset := hset1 (by omega))) (k := ?_)) | (refine syl_id ?_; first | refine yv (op_callV (hc := fun w' X hk hh => hs ▸ sum_fn a0 n c key w' hn hc (by omega) (hsl.keep hk (fun _ _ h => h)) (hT.no hk))) (k := ?_) | refine yv (op_copyC (B := s.map Sy.v8) (k := 32) (hr := Rd.of (Reads.blk Has.here Seg.all)) (hk := by rw [List.length_map, hs32]) (hset := hset1 (by omega))) (k := ?_) | refine y_move ?_ | refine y_slice ?_ | refine y_store ?_ | (refine y_new ?_; intro _) | fail) | refine dh_0n ?_ | (refine dh_id ?_; first | refine dc (fun _ _ => op_callV (hc := fun w' X hk hh => hs ▸ sum_fn a0 n c key w' hn hc (by omega) (hsl.keep hk (fun _ _ h => h)) (hT.no hk))) (k := ?_) | refine dc (fun _ _ => op_copyC (B := s.map Sy.v8) (k := 32) (hr := Rd.of (Reads.blk Has.here Seg.all)) (hk := by rw [List.length_map, hs32]) (hset := hset1 (by omega))) (k := ?_) | refine d_move ?_ | refine d_slice ?_ | fail) | refine sy_region ?_ | fail)
      refine syx_cut () ?_ ?_ ?_
      · exact trivial
      · (repeat' (first | exact Sub.nil | refine Sub.cons rfl ?_ ?_ | rfl))
      · (repeat' (first | exact SubR.nil | (apply SubR.same; with_reducible (focus ((repeat (first | exact Rem.here | apply Rem.there)); done))) | (apply SubR.blk; (focus ((repeat (first | exact Rem.here | apply Rem.there)); done))) | (apply SubR.pick; (focus ((repeat (first | exact Rem.here | apply Rem.there)); done))) | rfl))
    · have h := of_decide_eq_false h
      repeat' (first | refine sy_seqC ?_ | refine syl_nil ?_ | refine sy_if_t rfl ?_ | refine sy_if_f rfl ?_ | refine sy_block ?_ | refine sy_skip ?_ | refine sy_ret ?_ | refine sy_exit ?_ | refine sy_label ?_ | refine syx_then ?_ | refine syx_go ?_ | refine syx_then_ret ?_ | refine syx_then_exit ?_ | refine syx_in ?_ | refine syx_in_ret ?_ | refine syx_in_here ?_ | refine syx_in_past rfl ?_ | (apply syx_begin; (focus ((repeat (first | exact Rem.here | apply Rem.there)); done)); assumption) | (refine sy_region (id := 7) ?_; try refine y_slice ?_; try refine y_move ?_; try refine yv (op_copyC (B := key.map Sy.v8) (k := n) (hr := Rd.old hsl (fun _ _ h => h)) (hk := by rw [List.length_map, hn]) (hset := hset2 (by omega))) (k := ?_)) | (refine syl_id ?_; first | refine yv (op_copyC (B := key.map Sy.v8) (k := n) (hr := Rd.old hsl (fun _ _ h => h)) (hk := by rw [List.length_map, hn]) (hset := hset2 (by omega))) (k := ?_) | refine y_slice ?_ | refine y_move ?_ | fail) | refine sy_region ?_ | fail)
      refine syx_cut () ?_ ?_ ?_
      · exact trivial
      · (repeat' (first | exact Sub.nil | refine Sub.cons rfl ?_ ?_ | rfl))
      · (repeat' (first | exact SubR.nil | (apply SubR.same; with_reducible (focus ((repeat (first | exact Rem.here | apply Rem.there)); done))) | (apply SubR.blk; (focus ((repeat (first | exact Rem.here | apply Rem.there)); done))) | (apply SubR.pick; (focus ((repeat (first | exact Rem.here | apply Rem.there)); done))) | rfl))
  rintro - -
  have hx1 := kx64 key 92
  have hx2 := kx64 key 54
  have hA := macA_len key
  have hfill := mac_fill key
  repeat' (first | refine sy_seqC ?_ | refine syl_nil ?_ | refine sy_if_t rfl ?_ | refine sy_if_f rfl ?_ | refine sy_block ?_ | refine sy_skip ?_ | refine sy_ret ?_ | refine sy_exit ?_ | refine sy_label ?_ | refine syx_then ?_ | refine syx_go ?_ | refine syx_then_ret ?_ | refine syx_then_exit ?_ | refine syx_in ?_ | refine syx_in_ret ?_ | refine syx_in_here ?_ | refine syx_in_past rfl ?_ | (apply syx_begin; (focus ((repeat (first | exact Rem.here | apply Rem.there)); done)); assumption) | (refine sy_region (id := 8) ?_; try refine y_makeFunc ?_; try refine y_assign ?_) | (refine sy_region (id := 9) ?_; try refine y_move ?_; try (first | refine yv (op_callV (hc := fun w' X hk hh => comb_fn b4 36 (kpad key) 92 w' (hh.has (Has.append Has.here)) hp64)) (k := ?_) | refine yv (op_callV (hc := fun w' X hk hh => comb_fn b4 36 (kpad key) 54 w' (hh.has (Has.append Has.here)) hp64)) (k := ?_) | fail); try refine y_move ?_; try (first | refine yv (op_callV (hc := fun w' X hk hh => comb_fn b4 36 (kpad key) 92 w' (hh.has (Has.append Has.here)) hp64)) (k := ?_) | refine yv (op_callV (hc := fun w' X hk hh => comb_fn b4 36 (kpad key) 54 w' (hh.has (Has.append Has.here)) hp64)) (k := ?_) | fail); try refine y_build ?_; try refine y_build ?_; try (refine y_new ?_; intro _); try refine y_assign ?_) | (refine syl_id ?_; first | refine yv (op_callV (hc := fun w' X hk hh => comb_fn b4 36 (kpad key) 92 w' (hh.has (Has.append Has.here)) hp64)) (k := ?_) | refine yv (op_callV (hc := fun w' X hk hh => comb_fn b4 36 (kpad key) 54 w' (hh.has (Has.append Has.here)) hp64)) (k := ?_) | refine y_makeFunc ?_ | refine y_move ?_ | refine y_build ?_ | refine y_assign ?_ | (refine y_new ?_; intro _) | fail) | refine sy_region ?_ | fail)
  refine yv (op_buildP hfill) (k := ?_)
  have h1 : (macA key ++ (hashZ ++ [Value.bool true])).all (·.oneCell') = true := by
    unfold macA; rw [List.all_append, List.all_append, List.all_append, one8, one8]; rfl
  repeat' (first | refine sy_seqC ?_ | refine syl_nil ?_ | refine sy_if_t rfl ?_ | refine sy_if_f rfl ?_ | refine sy_block ?_ | refine sy_skip ?_ | refine sy_ret ?_ | refine sy_exit ?_ | refine sy_label ?_ | refine syx_then ?_ | refine syx_go ?_ | refine syx_then_ret ?_ | refine syx_then_exit ?_ | refine syx_in ?_ | refine syx_in_ret ?_ | refine syx_in_here ?_ | refine syx_in_past rfl ?_ | (apply syx_begin; (focus ((repeat (first | exact Rem.here | apply Rem.there)); done)); assumption) | (refine sy_region (id := 9) ?_; try refine y_move ?_; try refine y_move ?_; try refine y_build ?_; try refine y_build ?_; try (refine y_new ?_; intro _); try refine y_assign ?_) | (refine syl_id ?_; first | refine y_move ?_ | refine y_build ?_ | refine y_assign ?_ | (refine y_new ?_; intro _) | fail) | refine sy_region ?_ | fail)
  rename_i bm
  have hin : Seg (macA key ++ (hashZ ++ [.bool true])) 64 ((kxor (kpad key) 54).map Sy.v8) := by
    unfold macA
    rw [List.append_assoc]
    have := Seg.in (A := (kxor (kpad key) 92).map Sy.v8) (B := hashZ ++ [.bool true]) (Seg.all (C := (kxor (kpad key) 54).map Sy.v8))
    rw [List.length_map, hx1] at this
    exact this
  repeat' (first | refine sy_seqC ?_ | refine syl_nil ?_ | refine sy_if_t rfl ?_ | refine sy_if_f rfl ?_ | refine sy_block ?_ | refine sy_skip ?_ | refine sy_ret ?_ | refine sy_exit ?_ | refine sy_label ?_ | refine syx_then ?_ | refine syx_go ?_ | refine syx_then_ret ?_ | refine syx_then_exit ?_ | refine syx_in ?_ | refine syx_in_ret ?_ | refine syx_in_here ?_ | refine syx_in_past rfl ?_ | (apply syx_begin; (focus ((repeat (first | exact Rem.here | apply Rem.there)); done)); assumption) | (refine sy_region (id := 10) ?_; try refine y_move ?_; try refine y_move ?_; try refine y_nilCheck ?_; try refine y_fieldAddr ?_; try (refine ys (op_call0 (hc := fun w' X hk hh => begin_fn bm (kxor (kpad key) 54) w' hx2 (blk_range (hh.has (Has.append Has.here)) hin) (hT.no hk))) (k := ?_); rintro _ _ ⟨R, rfl, rfl, H, hH, rfl⟩); try refine y_nilCheck ?_; try refine y_fieldAddr ?_; try refine y_store ?_) | (refine syl_id ?_; first | (refine ys (op_call0 (hc := fun w' X hk hh => begin_fn bm (kxor (kpad key) 54) w' hx2 (blk_range (hh.has (Has.append Has.here)) hin) (hT.no hk))) (k := ?_); rintro _ _ ⟨R, rfl, rfl, H, hH, rfl⟩) | refine y_move ?_ | refine y_fieldAddr ?_ | refine y_nilCheck ?_ | refine y_store ?_ | fail) | refine sy_region ?_ | fail)
  have hHl := hH.len
  have hH1 := hash_one hH
  have hst : setSeg (macA key ++ (hashZ ++ [.bool true])) (0 + 128) H = macA key ++ (H ++ [.bool true]) := by
    have := setSeg_in (A := macA key) (C := hashZ) (B := [.bool true]) (k := 0) (D := H) (by rw [hHl]; decide)
    rw [hA, setSeg_all (by rw [hHl]; rfl)] at this
    exact this
  repeat' (first | refine sy_seqC ?_ | refine syl_nil ?_ | refine sy_if_t rfl ?_ | refine sy_if_f rfl ?_ | refine sy_block ?_ | refine sy_skip ?_ | refine sy_ret ?_ | refine sy_exit ?_ | refine sy_label ?_ | refine syx_then ?_ | refine syx_go ?_ | refine syx_then_ret ?_ | refine syx_then_exit ?_ | refine syx_in ?_ | refine syx_in_ret ?_ | refine syx_in_here ?_ | refine syx_in_past rfl ?_ | (apply syx_begin; (focus ((repeat (first | exact Rem.here | apply Rem.there)); done)); assumption) | (refine sy_region (id := 10) ?_; try refine y_move ?_; try refine y_move ?_; try refine y_nilCheck ?_; try refine y_fieldAddr ?_; try refine y_nilCheck ?_; try refine y_fieldAddr ?_; try (first | refine yn (op_stores (h1 := hHl.symm) (hv := hH1) (hC := by simp [hA, hHl, hashZ])) (k := ?_) | refine y_store ?_ | fail)) | (refine sy_region (id := 11) ?_; try refine y_move ?_; try refine y_assign ?_; try refine y_assign ?_) | (refine syl_id ?_; first | refine yn (op_stores (h1 := hHl.symm) (hv := hH1) (hC := by simp [hA, hHl, hashZ])) (k := ?_) | refine y_move ?_ | refine y_assign ?_ | refine y_fieldAddr ?_ | refine y_nilCheck ?_ | refine y_store ?_ | fail) | refine sy_region ?_ | fail)
  rw [hst]
  exact ret2 rfl (resTmp rfl) (resTmp rfl) (by (repeat' (first | exact SubR.nil | (apply SubR.same; with_reducible (focus ((repeat (first | exact Rem.here | apply Rem.there)); done))) | (apply SubR.blk; (focus ((repeat (first | exact Rem.here | apply Rem.there)); done))) | (apply SubR.pick; (focus ((repeat (first | exact Rem.here | apply Rem.there)); done))) | rfl))) ⟨bm, _, rfl, rfl, H, by rw [List.append_nil]; exact hH, rfl⟩
theorem new_long (a0 : Option Addr) (n c : Nat) (w : World) (hb : 4096 < n) : Sy.Fn Tryd.prog 39 [.slice a0 n c] w No (Gives (.tuple #[.pointer none, .int .i64 2])) := by
  refine fn_enter Tryd.func39 rfl Tryd.ntmps39 (by simp) Holds.nil ?_
  repeat' (first | refine sy_seqC ?_ | refine syl_nil ?_ | refine sy_if_t rfl ?_ | refine sy_if_f rfl ?_ | refine sy_block ?_ | refine sy_skip ?_ | refine sy_ret ?_ | refine sy_exit ?_ | refine sy_label ?_ | refine syx_then ?_ | refine syx_go ?_ | refine syx_then_ret ?_ | refine syx_then_exit ?_ | refine syx_in ?_ | refine syx_in_ret ?_ | refine syx_in_here ?_ | refine syx_in_past rfl ?_ | (apply syx_begin; (focus ((repeat (first | exact Rem.here | apply Rem.there)); done)); assumption) | (refine sy_region (id := 0) ?_; try refine y_assign ?_; try refine y_assign ?_) | (refine sy_region (id := 1) ?_; try refine y_move ?_; try refine y_len ?_; try refine y_gtr ?_) | (refine sy_region (id := 2) ?_; try refine y_assign ?_; try refine y_assign ?_) | (refine syl_id ?_; first | refine y_gtr ?_ | refine y_assign ?_ | refine y_len ?_ | refine y_move ?_ | fail) | refine sy_region ?_ | fail)
  exact ret2 rfl (resTmp rfl) (resTmp rfl) SubR.nil ⟨rfl, rfl⟩
end Go.Proofs.YtcahnkdnhejkkaaDoor
