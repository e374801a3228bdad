/- The logic of walks: maps of one's own: made, changed, looked up; keys that are integers, strings, truths. -/
import Derived.Test.YtaeddmcoanefhaaGreatDoorVJ17
import Derived.MapKept
import Derived.Test.YtaeddmcoanefhaaGreatDoorVJ33
set_option linter.all false
section
namespace Go.Sy
open Go Instr Go.MapKept
section
variable {P : Program} {ro : Option Nat} {N : Nat} {w0 : World} {M : Nat → Prop} {ds : List Deferred} {g : Nat → Option Value} {L : List Res} {o : Oper} {t k e : TypeId} {d : TypeDesc} {m x : Operand}
def mapR (b : Nat) (es : List MapEntry) (c : Nat) : Res := .obj b (.map es.toArray c)
theorem op_makeMap (ho : o.op = .makeMap t none := by exact rfl) : OpT P ro N w0 M ds o g L (fun v L' => ∃ b, v = .map (some b) ∧ L' = mapR b [] 0 :: L) :=
  OpT.run (by rw [ho]; rfl) fun a w X hs => by
    refine ⟨_, _, w.alloc (.map #[] 0), mapR w.heap.size [] 0 :: L, ?_, .inl rfl, ⟨w.heap.size, rfl, rfl⟩, hs.keep.trans (Keep.alloc No w _) (fun _ h => h.elim), hs.hold.newObj hs.keep.size _⟩
    simp [execOp, ho, Instr.makeMap]
theorem Keep.setObj (w : World) (b : Nat) (ob : Obj) : Keep (· = b) w { w with heap := w.heap.setIfInBounds b ob } :=
  ⟨rfl, rfl, rfl, by simp, fun j _ hn => by
    show (w.heap.setIfInBounds b ob)[j]? = _
    rw [Array.getElem?_setIfInBounds_ne (fun h => hn h.symm)]⟩
theorem op_mapIns {z : Operand} {b c : Nat} {es : List MapEntry} {key v : Value} {L' : List Res} (ht : P.underlying t = some (.map k e)) (hd : P.underlying k = some d) (hk : IsKey d key) (hf : findNow d key es 0 = some none) (ho : o.op = .insert t m x z := by exact rfl)
    (hm : ev g m = some (.map (some b)) := by exact rfl) (hx : ev g x = some key := by exact rfl) (hz : ev g z = some v := by exact rfl)
    (hL : Upd L (mapR b es c) (mapR b (es ++ [MapEntry.mk key v c]) (c + 1)) L' := by repeat (first | exact Upd.here | apply Upd.there)) : OpT P ro N w0 M ds o g L (Det undef L') :=
  OpT.run (by rw [ho]; rfl) fun a w X hs => by
    have hb : w.heap[b]? = some (.map es.toArray c) := hs.hold.has (r := mapR b es c) (by obtain ⟨A, B, e, _⟩ := hL; subst e; simp [Has])
    have hmi := hs.hold.mine (mapR b es c) (by obtain ⟨A, B, e, _⟩ := hL; subst e; simp) b rfl
    obtain ⟨s1, s2⟩ := heap_set (o' := .map (es ++ [MapEntry.mk key v c]).toArray (c + 1)) hb
    refine ⟨_, _, { w with heap := w.heap.setIfInBounds b (.map (es ++ [MapEntry.mk key v c]).toArray (c + 1)) }, L', ?_, .inr ⟨rfl, rfl⟩, ⟨rfl, rfl⟩, keep_mine hs.keep (Keep.setObj w b _) hmi, ?_⟩
    · have hg : (getObj b).run P w = .ok (.map es.toArray c) w := by simp [getObj, Sem.run, hb]
      have e1 : (es.toArray.push (MapEntry.mk key v c)) = (es ++ [MapEntry.mk key v c]).toArray := by simp
      simp [execOp, ho, hs.agr.eval hm, hs.agr.eval hx, hs.agr.eval hz, Instr.mapUpdate, run_underlying ht, hg, run_checkKey hd hk, run_findKey hd hf, run_setObj_map _ hb, e1]
    · exact hs.hold.upd hL.append (fun b' hb' => .inl hb') s1 ((Keep.setObj w b _).mono (fun x hx => by subst hx; exact rfl))
theorem op_lookup {b c i : Nat} {es : List MapEntry} {key v : Value} (ht : P.underlying t = some (.map k e)) (hd : P.underlying k = some d) (hk : IsKey d key) (hf : findNow d key es 0 = some (some (i, v))) (ho : o.op = .lookup t m x false := by exact rfl)
    (hm : ev g m = some (.map (some b)) := by exact rfl) (hx : ev g x = some key := by exact rfl) (hL : Has L (mapR b es c) := by repeat (first | exact Has.here | apply Has.there)) : OpT P ro N w0 M ds o g L (Det v L) :=
  OpT.still (by rw [ho]; rfl) fun a w X hs => by
    have hb : w.heap[b]? = some (.map es.toArray c) := hs.hold.has (r := mapR b es c) (Has.append hL)
    have hg : (getObj b).run P w = .ok (.map es.toArray c) w := by simp [getObj, Sem.run, hb]
    simp [execOp, ho, hs.agr.eval hm, hs.agr.eval hx, Instr.lookup, run_underlying ht, hg, run_checkKey hd hk, run_findKey hd hf]
theorem op_lookupOk {b c i : Nat} {es : List MapEntry} {key v : Value} (ht : P.underlying t = some (.map k e)) (hd : P.underlying k = some d) (hk : IsKey d key) (hf : findNow d key es 0 = some (some (i, v))) (ho : o.op = .lookup t m x true := by exact rfl)
    (hm : ev g m = some (.map (some b)) := by exact rfl) (hx : ev g x = some key := by exact rfl) (hL : Has L (mapR b es c) := by repeat (first | exact Has.here | apply Has.there)) : OpT P ro N w0 M ds o g L (Det (.tuple #[v, .bool true]) L) :=
  OpT.still (by rw [ho]; rfl) fun a w X hs => by
    have hb : w.heap[b]? = some (.map es.toArray c) := hs.hold.has (r := mapR b es c) (Has.append hL)
    have hg : (getObj b).run P w = .ok (.map es.toArray c) w := by simp [getObj, Sem.run, hb]
    simp [execOp, ho, hs.agr.eval hm, hs.agr.eval hx, Instr.lookup, run_underlying ht, hg, run_checkKey hd hk, run_findKey hd hf]
theorem op_lookupOkNo {b c : Nat} {es : List MapEntry} {key zv : Value} (ht : P.underlying t = some (.map k e)) (hd : P.underlying k = some d) (hk : IsKey d key) (hf : findNow d key es 0 = some none) (hzv : ∀ w : World, (zeroValue e).run P w = .ok zv w) (ho : o.op = .lookup t m x true := by exact rfl)
    (hm : ev g m = some (.map (some b)) := by exact rfl) (hx : ev g x = some key := by exact rfl) (hL : Has L (mapR b es c) := by repeat (first | exact Has.here | apply Has.there)) : OpT P ro N w0 M ds o g L (Det (.tuple #[zv, .bool false]) L) :=
  OpT.still (by rw [ho]; rfl) fun a w X hs => by
    have hb : w.heap[b]? = some (.map es.toArray c) := hs.hold.has (r := mapR b es c) (Has.append hL)
    have hg : (getObj b).run P w = .ok (.map es.toArray c) w := by simp [getObj, Sem.run, hb]
    simp [execOp, ho, hs.agr.eval hm, hs.agr.eval hx, Instr.lookup, run_underlying ht, hg, run_checkKey hd hk, run_findKey hd hf, hzv]
end
end Go.Sy
end
section
namespace Go.Proofs.YtaeddmcoanefhaaGreatDoor
open Go Go.Sy Go.Sh Go.Nt Go.RowKit
attribute [local irreducible] Sy SyL SyX Sy.Fn callFunc natC
set_option maxRecDepth 10000
theorem sel1_fn (x y : Nat) (w : World) : Sy.Fn Tryz.prog 39 [natV x, natV y] w No (Gives (natV x)) := by
  refine fn_enter Tryz.func39 rfl Tryz.ntmps39 (by simp) Holds.nil ?_
  have lx := natC_len x
  have ly := natC_len y
  repeat' (first | refine sy_seqC ?_ | refine syl_nil ?_ | refine sy_ret ?_ | refine syx_then ?_ | refine syx_go ?_ | (refine sy_region (id := 0) ?_; (refine y_new ?_; intro _); (refine y_new ?_; intro _); (refine y_new ?_; intro _)) | (refine sy_region (id := 1) ?_; refine yv (op_loads (B := natC x)) (k := ?_); refine yn (op_storeNat (n := x)) (k := ?_)) | fail)
  exact ret1 rfl (resCells (B := natC x) rfl (ty rfl) rfl Has.go Seg.all (natC_len _).symm) SubR.nil ⟨rfl, rfl⟩
theorem sel2_fn (x y : Nat) (w : World) : Sy.Fn Tryz.prog 40 [natV x, natV y] w No (Gives (natV y)) := by
  refine fn_enter Tryz.func40 rfl Tryz.ntmps40 (by simp) Holds.nil ?_
  have lx := natC_len x
  have ly := natC_len y
  repeat' (first | refine sy_seqC ?_ | refine syl_nil ?_ | refine sy_ret ?_ | refine syx_then ?_ | refine syx_go ?_ | (refine sy_region (id := 0) ?_; (refine y_new ?_; intro _); (refine y_new ?_; intro _); (refine y_new ?_; intro _)) | (refine sy_region (id := 1) ?_; refine yv (op_loads (B := natC y)) (k := ?_); refine yn (op_storeNat (n := y)) (k := ?_)) | fail)
  exact ret1 rfl (resCells (B := natC y) rfl (ty rfl) rfl Has.go Seg.all (natC_len _).symm) SubR.nil ⟨rfl, rfl⟩
theorem ord1_fn (a b : Option Addr) (n c m d : Nat) (w : World) : Sy.Fn Tryz.prog 41 [.slice a n c, .slice b m d] w No (Gives (.tuple #[.slice a n c, .slice b m d])) := by
  refine fn_enter Tryz.func41 rfl Tryz.ntmps41 (by simp) Holds.nil ?_
  repeat' (first | refine sy_seqC ?_ | refine syl_nil ?_ | refine sy_ret ?_ | refine syx_then ?_ | refine syx_go ?_ | (refine sy_region (id := 0) ?_; refine y_assign ?_; refine y_assign ?_) | (refine sy_region (id := 1) ?_; refine y_move ?_; refine y_move ?_; refine y_assign ?_; refine y_assign ?_) | fail)
  exact ret2 rfl (resTmp rfl) (resTmp rfl) SubR.nil ⟨rfl, rfl⟩
theorem ord2_fn (a b : Option Addr) (n c m d : Nat) (w : World) : Sy.Fn Tryz.prog 42 [.slice a n c, .slice b m d] w No (Gives (.tuple #[.slice b m d, .slice a n c])) := by
  refine fn_enter Tryz.func42 rfl Tryz.ntmps42 (by simp) Holds.nil ?_
  repeat' (first | refine sy_seqC ?_ | refine syl_nil ?_ | refine sy_ret ?_ | refine syx_then ?_ | refine syx_go ?_ | (refine sy_region (id := 0) ?_; refine y_assign ?_; refine y_assign ?_) | (refine sy_region (id := 1) ?_; refine y_move ?_; refine y_move ?_; refine y_assign ?_; refine y_assign ?_) | fail)
  exact ret2 rfl (resTmp rfl) (resTmp rfl) SubR.nil ⟨rfl, rfl⟩
def aggC : Value := .agg #[.string (str (pkName true)), .func (.func 39) #[] #[], .func (.func 40) #[] #[], .func (.func 41) #[] #[]]
def aggS : Value := .agg #[.string (str (pkName false)), .func (.func 40) #[] #[], .func (.func 39) #[] #[], .func (.func 42) #[] #[]]
theorem sides_fn (w : World) : Sy.Fn Tryz.prog 18 [] w No (fun v R => ∃ b, v = .map (some b) ∧ R = [mapR b [⟨.int .i64 1, aggC, 0⟩, ⟨.int .i64 2, aggS, 1⟩] 2]) := by
  refine fn_enter Tryz.func18 rfl Tryz.ntmps18 (by simp) Holds.nil ?_
  have ht : Tryz.prog.underlying 57 = some (.map 30 55) := rfl
  have hd : Tryz.prog.underlying 30 = some (.int .i64) := rfl
  have hk : ∀ n, MapKept.IsKey (.int .i64) (.int .i64 n) := fun _ => rfl
  repeat' (first | refine sy_seqC ?_ | refine syl_nil ?_ | refine sy_ret ?_ | refine syx_then ?_ | refine syx_go ?_ | (refine sy_region (id := 0) ?_; refine y_assign ?_) | (refine sy_region (id := 1) ?_; refine y_assign ?_) | (refine sy_region (id := 2) ?_; refine y_assign ?_) | (refine sy_region (id := 3) ?_) | refine yn (op_mapIns (key := .int .i64 1) (v := aggC) (ht := ht) (hd := hd) (hk := hk _) (hf := rfl)) (k := ?_) | refine yn (op_mapIns (key := .int .i64 2) (v := aggS) (ht := ht) (hd := hd) (hk := hk _) (hf := rfl)) (k := ?_) | (refine syl_id ?_; first | (refine ys op_makeMap (k := ?_); rintro _ _ ⟨bm, rfl, rfl⟩) | refine y_assign ?_ | refine y_build ?_ | refine y_move ?_ | fail) | fail)
  exact ret1 rfl (resTmp rfl) (SubR.same Rem.here SubR.nil) ⟨bm, rfl, rfl⟩
end Go.Proofs.YtaeddmcoanefhaaGreatDoor
end
section
namespace Go.Proofs.YtaeddmcoanefhaaGreatDoor
open Go Go.Sy Go.Sh Go.Nt Go.RowKit
attribute [local irreducible] Sy SyL SyX Sy.Fn callFunc natC
set_option maxRecDepth 10000
theorem finished_fn (b : Nat) (d : Bool) (w : World) (hc : w.cell? ⟨b, 2, none⟩ = some (.bool d)) : Sy.Fn Tryz.prog 54 [.pointer (some ⟨b, 0, none⟩)] w No (Gives (.bool d)) := by
  refine fn_enter Tryz.func54 rfl Tryz.ntmps54 (by simp) Holds.nil ?_
  repeat' (first | refine sy_seqC ?_ | refine syl_nil ?_ | refine sy_ret ?_ | refine syx_then ?_ | refine syx_go ?_ | (refine sy_region (id := 0) ?_; refine y_assign ?_) | (refine sy_region (id := 1) ?_; refine y_move ?_; refine y_nilCheck ?_; refine y_fieldAddr ?_; refine yv (op_load_old (hv := hc)) (k := ?_); refine y_assign ?_) | fail)
  exact ret1 rfl (resTmp rfl) SubR.nil ⟨rfl, rfl⟩
theorem cell_to {b o : Nat} {v : Value} {w w' : World} (hc : w.cell? ⟨b, o, none⟩ = some v) (hk : Keep No w w') : w'.cell? ⟨b, o, none⟩ = some v := by
  have h : w.rangeAt b o [v] := fun j u hj => by
    cases j with
    | zero => cases hj; exact hc
    | succ j => simp at hj
  exact range_keep h hk (fun h => h) 0 v rfl
theorem open_fn (b : Nat) (w : World) (hc : w.cell? ⟨b, 2, none⟩ = some (.bool false)) : Sy.Fn Tryz.prog 30 [.pointer (some ⟨b, 0, none⟩)] w No (Gives (.int .i64 0)) := by
  refine fn_enter Tryz.func30 rfl Tryz.ntmps30 (by simp) Holds.nil ?_
  have hf := fun w' (hk : Keep No w w') => finished_fn b false w' (cell_to hc hk)
  repeat' (first | refine sy_seqC ?_ | refine syl_nil ?_ | refine sy_if_f rfl ?_ | refine sy_skip ?_ | refine sy_ret ?_ | refine syx_then ?_ | refine syx_go ?_ | (refine sy_region (id := 0) ?_; refine y_assign ?_) | (refine sy_region (id := 1) ?_; refine y_move ?_; refine y_nilCheck ?_; refine y_fieldAddr ?_; refine yv (op_callV (f := 54) (hc := fun w' X hk hh => hf w' hk)) (k := ?_)) | (refine sy_region (id := 3) ?_; refine y_assign ?_) | fail)
  exact ret1 rfl (resTmp rfl) SubR.nil ⟨rfl, rfl⟩
theorem complete_fn (b : Nat) (w : World) (hc : w.cell? ⟨b, 2, none⟩ = some (.bool true)) : Sy.Fn Tryz.prog 36 [.pointer (some ⟨b, 0, none⟩)] w No (Gives (.int .i64 0)) := by
  refine fn_enter Tryz.func36 rfl Tryz.ntmps36 (by simp) Holds.nil ?_
  have hf := fun w' (hk : Keep No w w') => finished_fn b true w' (cell_to hc hk)
  repeat' (first | refine sy_seqC ?_ | refine syl_nil ?_ | refine sy_if_f rfl ?_ | refine sy_skip ?_ | refine sy_ret ?_ | refine syx_then ?_ | refine syx_go ?_ | (refine sy_region (id := 0) ?_; refine y_assign ?_) | (refine sy_region (id := 1) ?_; refine y_move ?_; refine y_nilCheck ?_; refine y_fieldAddr ?_; refine yv (op_callV (f := 54) (hc := fun w' X hk hh => hf w' hk)) (k := ?_); refine y_unOp ?_) | (refine sy_region (id := 3) ?_; refine y_assign ?_) | fail)
  exact ret1 rfl (resTmp rfl) SubR.nil ⟨rfl, rfl⟩
theorem exists_fn (b : Nat) (s : Int) (w : World) (hs : s ≠ 0) (hc : w.cell? ⟨b, 35, none⟩ = some (.int .i64 s)) : Sy.Fn Tryz.prog 29 [.pointer (some ⟨b, 0, none⟩)] w No (Gives (.int .i64 0)) := by
  refine fn_enter Tryz.func29 rfl Tryz.ntmps29 (by simp) Holds.nil ?_
  have g1 : decide (s = (0 : Int)) = false := decide_eq_false hs
  repeat' (first | refine sy_seqC ?_ | refine syl_nil ?_ | refine sy_if_f rfl ?_ | refine sy_skip ?_ | refine sy_ret ?_ | refine syx_then ?_ | refine syx_go ?_ | (refine sy_region (id := 0) ?_; refine y_assign ?_) | (refine sy_region (id := 1) ?_; refine y_move ?_; refine y_eql ?_; refine y_move ?_; refine y_move ?_; refine y_nilCheck ?_; refine y_fieldAddr ?_; refine yv (op_load_old (hv := hc)) (k := ?_); refine yv (op_eql (hr := g1)) (k := ?_); refine y_pick ?_) | (refine sy_region (id := 3) ?_; refine y_assign ?_) | fail)
  exact ret1 rfl (resTmp rfl) SubR.nil ⟨rfl, rfl⟩
theorem sclone_fn (a0 : Option Addr) (n c : Nat) (l : List UInt8) (w : World) (hn : l.length = n) (hb : n < 1000000000000) (hsl : SlA w a0 (l.map Sy.v8)) (hnil : a0 = none → c = 0 ∧ n = 0) :
    Sy.Fn Tryz.prog 20 [.slice a0 n c] w No (fun v R => ∃ a k, v = .slice a n k ∧ R = [.row (.slice a n k) 5 1 n (l.map Sy.v8)]) := by
  have hc0 : a0 = none → c = 0 := fun h => (hnil h).1
  refine fn_enter Tryz.func20 rfl Tryz.ntmps20 (by simp) Holds.nil ?_
  cases a0 with
  | none =>
    obtain ⟨rfl, rfl⟩ := hnil rfl
    obtain rfl : l = [] := List.length_eq_zero_iff.1 hn
    repeat' (first | refine sy_seqC ?_ | refine syl_nil ?_ | refine sy_if_t rfl ?_ | refine sy_ret ?_ | refine syx_then ?_ | refine syx_go ?_ | refine syx_then_ret ?_ | (refine sy_region (id := 0) ?_; refine y_assign ?_) | (refine sy_region (id := 1) ?_; refine y_move ?_; refine y_eql ?_) | (refine sy_region (id := 2) ?_; refine y_assign ?_) | fail)
    exact syx_conv (conv_nil 5 1) (ret1 rfl (resTmp rfl) (by exact SubR.go) ⟨_, _, rfl, rfl⟩)
  | some ad =>
    repeat' (first | refine sy_seqC ?_ | refine syl_nil ?_ | refine sy_if_f rfl ?_ | refine sy_skip ?_ | refine sy_ret ?_ | refine syx_then ?_ | refine syx_go ?_ | (refine sy_region (id := 0) ?_; refine y_assign ?_) | (refine sy_region (id := 1) ?_; refine y_move ?_; refine y_eql ?_) | (refine sy_region (id := 3) ?_; (refine ys op_buildSlice0 (k := ?_); rintro _ _ ⟨_, rfl, rfl⟩); refine y_move ?_; (refine ys op_appendB (k := ?_); rintro _ _ ⟨rfl, _, _, rfl⟩); refine y_assign ?_) | fail)
    exact ret1 rfl (resTmp rfl) (by exact SubR.go) ⟨_, _, rfl, rfl⟩
theorem xelement_fn (b : Nat) (s : Int) (ao : Option Addr) (n c : Nat) (l : List UInt8) (w : World) (hs : s ≠ 0) (hc : w.cell? ⟨b, 35, none⟩ = some (.int .i64 s)) (ho : w.cell? ⟨b, 68, none⟩ = some (.slice ao n c))
    (hn : l.length = n) (hb : n < 1000000000000) (hsl : SlA w ao (l.map Sy.v8)) (hnil : ao = none → c = 0 ∧ n = 0) :
    Sy.Fn Tryz.prog 11 [.pointer (some ⟨b, 0, none⟩)] w No (fun v R => ∃ a k, v = .slice a n k ∧ R = [.row (.slice a n k) 5 1 n (l.map Sy.v8)]) := by
  refine fn_enter Tryz.func11 rfl Tryz.ntmps11 (by simp) Holds.nil ?_
  have he := fun w' (hk : Keep No w w') => exists_fn b s w' hs (cell_to hc hk)
  have hcl := fun w' (hk : Keep No w w') => sclone_fn ao n c l w' hn hb ((SlF.of hsl).to (Mi := No) hk (fun _ h => .inr h)).sla hnil
  repeat' (first | refine sy_seqC ?_ | refine syl_nil ?_ | refine sy_if_f rfl ?_ | refine sy_skip ?_ | refine sy_ret ?_ | refine syx_then ?_ | refine syx_go ?_ | (refine sy_region (id := 0) ?_; refine y_assign ?_) | (refine sy_region (id := 1) ?_; refine y_move ?_; refine yv (op_callV (f := 29) (hc := fun w' X hk hh => he w' hk)) (k := ?_); refine y_neq ?_) | (refine sy_region (id := 3) ?_; refine y_move ?_; refine y_nilCheck ?_; refine y_fieldAddr ?_; refine yv (op_load_old (hv := ho)) (k := ?_); (refine ys (op_call0 (hc := fun w' X hk hh => hcl w' hk)) (k := ?_); rintro _ _ ⟨R, rfl, aE, kE, rfl, rfl⟩); refine y_assign ?_) | fail)
  exact ret1 rfl (resTmp rfl) (by exact SubR.go) ⟨_, _, rfl, rfl⟩
end Go.Proofs.YtaeddmcoanefhaaGreatDoor
end
