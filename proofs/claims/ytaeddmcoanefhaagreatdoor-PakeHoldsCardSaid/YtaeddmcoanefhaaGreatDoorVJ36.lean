/- Layer mac, walked: the parts of a keyed hash. -/
import Derived.Test.YtaeddmcoanefhaaGreatDoorVJ35
import Derived.Test.YtaeddmcoanefhaaGreatDoorVJ07
import Derived.Test.YtaeddmcoanefhaaGreatDoorVJ05
import Derived.Test.YtaeddmcoanefhaaGreatDoorVJ31
import Derived.Test.YtaeddmcoanefhaaGreatDoorVJ32
set_option linter.all false
section
namespace Go.Sh
open Go Go.Wd Go.RowKit Go.Sy
def macA (key : List UInt8) : List Value := (kxor (kpad key) 92).map Sy.v8 ++ (kxor (kpad key) 54).map Sy.v8
def MacIs (key l : List UInt8) (C : List Value) : Prop := ∃ H, HashIs (kxor (kpad key) 54 ++ l) H ∧ C = macA key ++ (H ++ [.bool true])
end Go.Sh
namespace Go.Proofs.YtaeddmcoanefhaaGreatDoor
open Go Go.Sy Go.Sh Go.RowKit
attribute [local irreducible] Sy SyL SyX Sy.Fn callFunc Sh.sum kxor kpad
set_option maxRecDepth 10000
theorem hash_one {l : List UInt8} {C : List Value} (h : HashIs l C) : C.all (·.oneCell') = true := by
  obtain ⟨s, r, rfl, -, -, -, -⟩ := h
  unfold hcells
  rw [List.all_append, List.all_append, one32, one8]; rfl
theorem hmac_len (key l : List UInt8) : (hmac key l).length = 32 := sum_len _
theorem kx64 (key : List UInt8) (m : UInt8) : (kxor (kpad key) m).length = 64 := by rw [kxor_len, kpad_len key (sum_len key)]
theorem macA_len (key : List UInt8) : (macA key).length = 128 := by unfold macA; rw [List.length_append, List.length_map, List.length_map, kx64, kx64]
theorem kxor_at (k : List UInt8) (m : UInt8) (i : Nat) (x : UInt8) (h : k[i]? = some x) : (kxor k m)[i]? = some (x ^^^ m) := by
  unfold kxor; rw [List.getElem?_map, h]; rfl
theorem comb_fn (S T : Nat) (k : List UInt8) (m : UInt8) (w : World) (hC : (Res.blk S T (k.map Sy.v8)).holds w) (hk : k.length = 64) :
    Sy.Fn Tryz.prog 90 [Sy.v8 m, .pointer (some ⟨S, 0, none⟩)] w No (Gives (.agg ((kxor k m).map Sy.v8).toArray)) := by
  have hrg : w.rangeAt S 0 (k.map Sy.v8) := blk_range hC Seg.all
  have hx64 : (kxor k m).length = 64 := by rw [kxor_len, hk]
  have hat := kxor_at k m
  refine fn_enter Tryz.func90 rfl Tryz.ntmps90 (by simp) Holds.nil ?_
  repeat' (first | refine sy_seqC ?_ | refine syl_nil ?_ | refine sy_block ?_ | refine syx_then ?_ | refine syx_go ?_ | (refine sy_region (id := 0) ?_; (refine y_new ?_; intro _)) | (refine sy_region (id := 1) ?_; refine y_load ?_; refine y_move ?_) | fail)
  rename_i b3
  refine sy_loop (γ := Nat) (fun i => [(0, Sy.v8 m), (3, .pointer (some ⟨b3, 0, none⟩)), (6, .agg (k.map Sy.v8).toArray), (7, .int .i64 i)]) (fun i => [.blk b3 127 (((kxor k m).take i).map Sy.v8 ++ List.replicate (64 - i) (.int .u8 0))]) (fun i => i ≤ 64) (fun i => 64 - i) 0 (by decide) ?_ ?_ ?_
  · exact Sub.go
  · exact SubR.go
  intro i hi
  by_cases hlt : i < 64
  · obtain ⟨x, hx⟩ : ∃ x, k[i]? = some x := ⟨k[i]'(by omega), List.getElem?_eq_getElem _⟩
    have hxv : (k.map Sy.v8)[i]? = some (.int .u8 (Wd.n8 x)) := by rw [List.getElem?_map, hx]; rfl
    have he : (((kxor k m).take i).map Sy.v8 ++ List.replicate (64 - i) (Value.int .u8 0)).set i (Sy.v8 (x ^^^ m)) = ((kxor k m).take (i + 1)).map Sy.v8 ++ List.replicate (64 - (i + 1)) (Value.int .u8 0) := by
      rw [show 64 - i = 64 - (i + 1) + 1 from by omega, List.replicate_succ, List.set_append_right _ _ (by simp; omega), List.take_add_one, hat i x hx]
      simp [hx64, Nat.min_eq_left (Nat.le_of_lt hlt)]
    have hl0 : (((kxor k m).take i).map Sy.v8 ++ List.replicate (64 - i) (Value.int .u8 0)).length = 64 := by simp [hx64]; omega
    generalize (((kxor k m).take i).map Sy.v8 ++ List.replicate (64 - i) (Value.int .u8 0)) = C at *
    repeat' (first | refine sy_seqC ?_ | refine syl_nil ?_ | refine sy_if_t rfl ?_ | refine sy_block ?_ | refine sy_skip ?_ | refine syx_then ?_ | refine syx_go ?_ | (refine sy_region (id := 2) ?_; refine y_lss ?_) | (refine sy_region (id := 3) ?_; refine y_move ?_; refine yv (op_index (hv := hxv)) (k := ?_); refine y_assign ?_; refine y_assign ?_) | (refine sy_region (id := 4) ?_; refine y_move ?_; refine y_move ?_; refine y_move ?_; refine yv (op_xor (hr := Wd.xor8 x m)) (k := ?_); refine y_indexAddr ?_; refine y_store ?_) | (refine sy_region (id := 5) ?_; refine y_add ?_; refine y_move ?_) | fail)
    refine syx_back (i + 1) ?_ ?_ ?_ ?_
    · show i + 1 ≤ 64; omega
    · show 64 - (i + 1) < 64 - i; omega
    · exact Sub.go
    · (repeat' (first | exact SubR.nil | (apply SubR.same; with_reducible (focus ((repeat (first | exact Rem.here | apply Rem.there)); done))) | (apply SubR.blk; (focus ((repeat (first | exact Rem.here | apply Rem.there)); done))) | (apply SubR.pick; (focus ((repeat (first | exact Rem.here | apply Rem.there)); done))) | rfl))
      exact he
  obtain rfl : i = 64 := by omega
  have hcells : ((kxor k m).take 64).map Sy.v8 ++ List.replicate (64 - 64) (Value.int .u8 0) = (kxor k m).map Sy.v8 := by rw [List.take_of_length_le (by omega)]; simp
  rw [hcells]
  have h1 := one8 (kxor k m)
  repeat' (first | refine sy_seqC ?_ | refine syl_nil ?_ | refine sy_if_f rfl ?_ | refine sy_ret ?_ | refine sy_exit ?_ | refine syx_then ?_ | refine syx_go ?_ | (refine sy_region (id := 2) ?_; refine y_lss ?_) | (refine sy_region (id := 6) ?_; refine y_load ?_; refine y_store ?_) | fail)
  exact ret1 rfl (resCells rfl (ty rfl) rfl Has.go Seg.all (by first | rfl | (simp only [List.length_map, List.length_set, List.length_replicate, List.length_append]; omega) | (simp only [List.length_map]; first | assumption | omega) | (simp; omega) | fail)) SubR.nil ⟨rfl, rfl⟩
theorem begin_fn (S : Nat) (x : List UInt8) (w : World) (hx : x.length = 64) (hr : w.rangeAt S 64 (x.map Sy.v8)) (hT : Tab w No) :
    Sy.Fn Tryz.prog 91 [.pointer (some ⟨S, 0, none⟩)] w No (fun v R => R = [] ∧ ∃ H, HashIs x H ∧ v = .agg H.toArray) := by
  have hsl : SlA w (some ⟨S, 64, none⟩) (x.map Sy.v8) := .inr ⟨S, 64, rfl, hr⟩
  have hI0 := HashIs.zero
  refine fn_enter Tryz.func91 rfl Tryz.ntmps91 (by simp) Holds.nil ?_
  repeat' (first | refine sy_seqC ?_ | refine syl_nil ?_ | refine syx_then ?_ | refine syx_go ?_ | (refine sy_region (id := 0) ?_; (refine y_new ?_; intro _)) | (refine sy_region (id := 1) ?_; refine y_move ?_; refine y_nilCheck ?_; refine y_fieldAddr ?_; refine y_slice ?_) | fail)
  rename_i b2
  refine ys (op_callR (b := b2) (Rel := HashIs ([] ++ x)) (hc := fun w' X hk hh => write_fn b2 [] x _ _ 64 64 w' (hh.has (Has.append Has.here)) hI0 hx (Nat.le_refl _) (by simp) (SlF.oldB hsl hk hh Has.here) (hT.to hk (hh.one Has.here)))) (k := ?_); rintro _ _ ⟨rfl, C, hC, rfl⟩
  have hl := hC.len
  have h1 := hash_one hC
  repeat' (first | refine sy_seqC ?_ | refine syl_nil ?_ | refine sy_ret ?_ | refine syx_then ?_ | refine syx_go ?_ | (refine sy_region (id := 2) ?_; refine yv (op_loads (hz := hl.symm)) (k := ?_); refine yn (op_storesAll (h1 := hl.symm) (hv := h1) (hC := rfl)) (k := ?_)) | fail)
  exact ret1 rfl (resCells rfl (ty rfl) rfl Has.go Seg.all hl.symm) SubR.nil ⟨rfl, C, hC, rfl⟩
theorem finish_fn (S : Nat) (x z : List UInt8) (w : World) (hx : x.length = 64) (hz : z.length = 32) (hr : w.rangeAt S 0 (x.map Sy.v8)) (hT : Tab w No) :
    Sy.Fn Tryz.prog 92 [.pointer (some ⟨S, 0, none⟩), .agg (z.map Sy.v8).toArray] w No (Gives (.agg ((Sh.sum (x ++ z)).map Sy.v8).toArray)) := by
  have hsl : SlA w (some ⟨S, 0, none⟩) (x.map Sy.v8) := .inr ⟨S, 0, rfl, hr⟩
  have hI0 := HashIs.zero
  have hs32 := sum_len (x ++ z)
  obtain ⟨s, hs⟩ : ∃ s, Sh.sum (x ++ z) = s := ⟨_, rfl⟩
  rw [hs] at hs32 ⊢
  refine fn_enter Tryz.func92 rfl Tryz.ntmps92 (by simp) Holds.nil ?_
  repeat' (first | refine sy_seqC ?_ | refine syl_nil ?_ | refine syx_then ?_ | refine syx_go ?_ | (refine sy_region (id := 0) ?_; (refine y_new ?_; intro _); (refine y_new ?_; intro _)) | (refine sy_region (id := 1) ?_; (refine y_new ?_; intro _)) | (refine sy_region (id := 2) ?_; refine y_move ?_; refine y_nilCheck ?_; refine y_fieldAddr ?_; refine y_slice ?_) | fail)
  rename_i b3 b4 b5
  refine ys (op_callR (b := b5) (Rel := HashIs ([] ++ x)) (hc := fun w' X hk hh => write_fn b5 [] x _ _ 64 64 w' (hh.has (Has.append Has.here)) hI0 hx (Nat.le_refl _) (by simp) (SlF.oldB hsl hk hh Has.here) (hT.to hk (hh.one Has.here)))) (k := ?_); rintro _ _ ⟨rfl, C, hC, rfl⟩
  have hC : HashIs x C := hC
  repeat' (first | refine sy_seqC ?_ | refine syl_nil ?_ | refine syx_then ?_ | refine syx_go ?_ | (refine sy_region (id := 3) ?_; refine y_slice ?_) | fail)
  refine ys (op_callR (b := b5) (Rel := HashIs (x ++ z)) (hc := fun w' X hk hh => write_fn b5 x z _ _ 32 32 w' (hh.has (Has.append Has.here)) hC hz (Nat.le_refl _) (by omega) (SlF.blkB hh Has.here (Has.there (Has.there Has.here)) (by intro h; cases h) Seg.all) (hT.to hk (hh.one Has.here)))) (k := ?_); rintro _ _ ⟨rfl, C2, hC2, rfl⟩
  repeat' (first | refine sy_seqC ?_ | refine syl_nil ?_ | refine sy_ret ?_ | refine syx_then ?_ | refine syx_go ?_ | (refine sy_region (id := 4) ?_; refine yv (op_callV (hc := fun w' X hk hh => hs ▸ sumH_at (S := b5) hk hh Has.here hC2 (by simp [hx, hz]) hT)) (k := ?_); refine y_store ?_) | fail)
  exact ret1 rfl (resCells rfl (ty rfl) rfl Has.go Seg.all (by first | rfl | (simp only [List.length_map, List.length_set, List.length_replicate, List.length_append]; omega) | (simp only [List.length_map]; first | assumption | omega) | (simp; omega) | fail)) SubR.nil ⟨rfl, rfl⟩
end Go.Proofs.YtaeddmcoanefhaaGreatDoor
namespace Go.Proofs.YtaeddmcoanefhaaGreatDoor
open Go Go.Sy Go.Sh Go.RowKit
attribute [local irreducible] Sy SyL SyX Sy.Fn callFunc Sh.sum kxor kpad kbase
set_option maxRecDepth 10000
theorem kpad_short (key : List UInt8) (h : key.length ≤ 64) : (key.map Sy.v8) ++ (List.replicate 64 (Value.int .u8 0)).drop key.length = (kpad key).map Sy.v8 := by
  unfold kpad kbase
  rw [if_neg (by omega), List.map_append, List.map_replicate, List.drop_replicate]; rfl
theorem kpad_big (key : List UInt8) (h : 64 < key.length) : ((Sh.sum key).map Sy.v8) ++ (List.replicate 64 (Value.int .u8 0)).drop 32 = (kpad key).map Sy.v8 := by
  unfold kpad kbase
  rw [if_pos h, List.map_append, List.map_replicate, List.drop_replicate, sum_len]; rfl
def macZ : List Value := List.replicate 128 (.int .u8 0 : Value) ++ List.replicate 8 (.int .u32 0 : Value) ++ List.replicate 64 (.int .u8 0 : Value) ++ [.int .i64 0] ++ [.bool false]
def hashZ : List Value := List.replicate 8 (.int .u32 0) ++ (List.replicate 64 (.int .u8 0) ++ [.int .i64 0])
theorem mac_fill (key : List UInt8) : FillTo (nth [(0, 128), (128, 73), (201, 1)]) [(0, .agg (macA key).toArray), (2, .bool true)] macZ (macA key ++ (hashZ ++ [.bool true])) := by
  have h := macA_len key
  have hz : hashZ.length = 73 := rfl
  have hZ : macZ.length = 202 := rfl
  have e1 : setSeg macZ 0 (macA key) = macA key ++ (hashZ ++ [.bool false]) := by
    rw [setSeg0, h]; rfl
  have e2 : setSeg (macA key ++ (hashZ ++ [.bool false])) 201 [.bool true] = macA key ++ (hashZ ++ [.bool true]) := by
    unfold setSeg
    rw [← List.append_assoc, List.take_left' (by rw [List.length_append, h, hz]), List.drop_of_length_le (by simp [h, hz]), List.append_nil, List.append_assoc]
  refine FillTo.cons (cs := macA key) rfl rfl h (by rw [hZ]; decide) ?_
  rw [e1]
  refine FillTo.cons (cs := [.bool true]) rfl rfl rfl (by simp [h, hz]) ?_
  rw [e2]
  exact FillTo.nil
set_option maxHeartbeats 1000000 in
theorem new_fn (a0 : Option Addr) (n c : Nat) (key : List UInt8) (w : World) (hn : key.length = n) (hb : n ≤ 4096) (hc : n ≤ c) (hsl : SlA w a0 (key.map Sy.v8)) (hT : Tab w No) :
    Sy.Fn Tryz.prog 65 [.slice a0 n c] w No (fun v R => ∃ b C, v = .tuple #[.pointer (some ⟨b, 0, none⟩), .int .i64 0] ∧ R = [.blk b 141 C] ∧ MacIs key [] C) := by
  refine fn_enter Tryz.func65 rfl Tryz.ntmps65 (by simp) Holds.nil ?_
  have hs32 := sum_len key
  have hshort := kpad_short key
  have hlong := kpad_big key
  have hp64 := kpad_len key hs32
  have hl64 : (kpad key).length = 64 := hp64
  obtain ⟨s, hs⟩ : ∃ s, Sh.sum key = s := ⟨_, rfl⟩
  rw [hs] at hs32 hlong
  have hset1 : 64 < key.length → setSeg (List.replicate 64 (Value.int .u8 0)) 0 (s.map Sy.v8) = (kpad key).map Sy.v8 := fun h => by rw [setSeg0, List.length_map, hs32]; exact hlong h
  have hset2 : key.length ≤ 64 → setSeg (List.replicate 64 (Value.int .u8 0)) 0 (key.map Sy.v8) = (kpad key).map Sy.v8 := fun h => by rw [setSeg0, List.length_map]; exact hshort h
  repeat' (first | refine sy_seqC ?_ | refine syl_nil ?_ | refine sy_if_f rfl ?_ | refine sy_skip ?_ | refine syx_then ?_ | refine syx_go ?_ | (refine sy_region (id := 0) ?_; refine y_assign ?_; refine y_assign ?_) | (refine sy_region (id := 1) ?_; refine y_move ?_; refine y_len ?_; refine y_gtr ?_) | (refine sy_region (id := 3) ?_; (refine y_new ?_; intro _)) | (refine sy_region (id := 4) ?_; refine y_move ?_; refine y_len ?_; refine y_gtr ?_) | fail)
  rename_i b4
  refine sy_cut (γ := Unit) (fun _ => [(4, .pointer (some ⟨b4, 0, none⟩))]) (fun _ => [.blk b4 127 ((kpad key).map Sy.v8)]) (fun _ => True) ?_ ?_
  · refine sy_cond rfl (fun h => ?_) (fun h => ?_)
    · have h := of_decide_eq_true h
      repeat' (first | refine sy_seqC ?_ | refine syl_nil ?_ | refine syx_then ?_ | refine syx_go ?_ | (refine sy_region (id := 5) ?_; refine y_move ?_; refine yv (op_callV (hc := fun w' X hk hh => hs ▸ shsum_fn a0 n c key w' hn hc (by omega) (hsl.keep hk (fun _ _ h => h)) (hT.no hk))) (k := ?_); (refine y_new ?_; intro _); refine y_store ?_) | (refine sy_draw (id := 6) 2 [[], [], [0, 1]] mixed ?_ ?_; kernel_rfl; refine d_slice ?_; refine d_slice ?_; refine dh_0n ?_; refine yv (op_copyC (B := s.map Sy.v8) (k := 32) (hr := Rd.of (Reads.blk Has.here Seg.all)) (hk := by rw [List.length_map, hs32]) (hset := hset1 (by omega))) (k := ?_)) | fail)
      refine syx_cut () ?_ ?_ ?_
      · exact trivial
      · exact Sub.go
      · exact SubR.go
    · have h := of_decide_eq_false h
      repeat' (first | refine syl_nil ?_ | refine syx_then ?_ | (refine sy_region (id := 7) ?_; refine y_slice ?_; refine y_move ?_; refine yv (op_copyC (B := key.map Sy.v8) (k := n) (hr := Rd.old hsl (fun _ _ h => h)) (hk := by rw [List.length_map, hn]) (hset := hset2 (by omega))) (k := ?_)) | fail)
      refine syx_cut () ?_ ?_ ?_
      · exact trivial
      · exact Sub.go
      · exact SubR.go
  rintro - -
  have hx1 := kx64 key 92
  have hx2 := kx64 key 54
  have hA := macA_len key
  have hfill := mac_fill key
  repeat' (first | refine sy_seqC ?_ | refine syl_nil ?_ | refine syx_then ?_ | refine syx_go ?_ | (refine sy_region (id := 8) ?_; refine y_makeFunc ?_; refine y_assign ?_) | (refine sy_region (id := 9) ?_; refine y_move ?_; refine yv (op_callV (hc := fun w' X hk hh => comb_fn b4 127 (kpad key) 92 w' (hh.has (Has.append Has.here)) hp64)) (k := ?_); refine y_move ?_; refine yv (op_callV (hc := fun w' X hk hh => comb_fn b4 127 (kpad key) 54 w' (hh.has (Has.append Has.here)) hp64)) (k := ?_); refine y_build ?_) | fail)
  refine yv (op_buildP hfill) (k := ?_)
  have h1 : (macA key ++ (hashZ ++ [Value.bool true])).all (·.oneCell') = true := by
    unfold macA; rw [List.all_append, List.all_append, List.all_append, one8, one8]; rfl
  repeat' (first | refine sy_seqC ?_ | refine syl_nil ?_ | refine syx_then ?_ | refine syx_go ?_ | (refine syl_id ?_; first | refine y_assign ?_ | refine y_move ?_ | (refine y_new ?_; intro _) | fail) | refine sy_region ?_ | fail)
  rename_i bm
  have hin : Seg (macA key ++ (hashZ ++ [.bool true])) 64 ((kxor (kpad key) 54).map Sy.v8) := by
    unfold macA
    rw [List.append_assoc]
    have := Seg.in (A := (kxor (kpad key) 92).map Sy.v8) (B := hashZ ++ [.bool true]) (Seg.all (C := (kxor (kpad key) 54).map Sy.v8))
    rw [List.length_map, hx1] at this
    exact this
  repeat' (first | (refine syl_id ?_; first | (refine ys (op_call0 (hc := fun w' X hk hh => begin_fn bm (kxor (kpad key) 54) w' hx2 (blk_range (hh.has (Has.append Has.here)) hin) (hT.no hk))) (k := ?_); rintro _ _ ⟨R, rfl, rfl, H, hH, rfl⟩) | refine y_fieldAddr ?_ | refine y_nilCheck ?_ | fail) | fail)
  have hHl := hH.len
  have hH1 := hash_one hH
  have hst : setSeg (macA key ++ (hashZ ++ [.bool true])) (0 + 128) H = macA key ++ (H ++ [.bool true]) := by
    have := setSeg_in (A := macA key) (C := hashZ) (B := [.bool true]) (k := 0) (D := H) (by rw [hHl]; decide)
    rw [hA, setSeg_all (by rw [hHl]; rfl)] at this
    exact this
  repeat' (first | refine sy_seqC ?_ | refine syl_nil ?_ | refine sy_ret ?_ | refine syx_then ?_ | refine syx_go ?_ | (refine sy_region (id := 11) ?_; refine y_move ?_; refine y_assign ?_; refine y_assign ?_) | (refine syl_id ?_; first | refine yn (op_stores (h1 := hHl.symm) (hv := hH1) (hC := by simp [hA, hHl, hashZ])) (k := ?_) | fail) | fail)
  rw [hst]
  exact ret2 rfl (resTmp rfl) (resTmp rfl) (by exact SubR.go) ⟨bm, _, rfl, rfl, H, by rw [List.append_nil]; exact hH, rfl⟩
end Go.Proofs.YtaeddmcoanefhaaGreatDoor
end
section
namespace Go.Sh
open Go Go.Wd Go.RowKit Go.Sy
end Go.Sh
namespace Go.Proofs.YtaeddmcoanefhaaGreatDoor
open Go Go.Sy Go.Sh Go.RowKit
attribute [local irreducible] Sy SyL SyX Sy.Fn callFunc
set_option maxRecDepth 10000
theorem clone_fn (a0 : Option Addr) (n c : Nat) (l : List UInt8) (w : World) (hn : l.length = n) (hb : n < 1000000000000) (hsl : SlA w a0 (l.map Sy.v8)) (hnil : a0 = none → c = 0 ∧ n = 0) :
    Sy.Fn Tryz.prog 93 [.slice a0 n c] w No (fun v R => ∃ a k, v = .slice a n k ∧ R = [.row (.slice a n k) 5 1 n (l.map Sy.v8)]) := by
  have hc0 : a0 = none → c = 0 := fun h => (hnil h).1
  refine fn_enter Tryz.func93 rfl Tryz.ntmps93 (by simp) Holds.nil ?_
  cases a0 with
  | none =>
    obtain ⟨rfl, rfl⟩ := hnil rfl
    obtain rfl : l = [] := List.length_eq_zero_iff.1 hn
    repeat' (first | refine sy_seqC ?_ | refine syl_nil ?_ | refine sy_if_t rfl ?_ | refine sy_ret ?_ | refine syx_then ?_ | refine syx_go ?_ | refine syx_then_ret ?_ | (refine sy_region (id := 0) ?_; refine y_assign ?_) | (refine sy_region (id := 1) ?_; refine y_move ?_; refine y_eql ?_) | (refine sy_region (id := 2) ?_; refine y_assign ?_) | fail)
    exact syx_conv (conv_nil 5 1) (ret1 rfl (resTmp rfl) (by exact SubR.go) ⟨_, _, rfl, rfl⟩)
  | some ad =>
    repeat' (first | refine sy_seqC ?_ | refine syl_nil ?_ | refine sy_if_f rfl ?_ | refine sy_skip ?_ | refine sy_ret ?_ | refine syx_then ?_ | refine syx_go ?_ | (refine sy_region (id := 0) ?_; refine y_assign ?_) | (refine sy_region (id := 1) ?_; refine y_move ?_; refine y_eql ?_) | (refine sy_region (id := 3) ?_; (refine ys op_buildSlice0 (k := ?_); rintro _ _ ⟨_, rfl, rfl⟩); refine y_move ?_; (refine ys op_appendB (k := ?_); rintro _ _ ⟨rfl, _, _, rfl⟩); refine y_assign ?_) | fail)
    exact ret1 rfl (resTmp rfl) (by exact SubR.go) ⟨_, _, rfl, rfl⟩
end Go.Proofs.YtaeddmcoanefhaaGreatDoor
end
