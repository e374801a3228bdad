/- Layer sha, walked: what its users need. -/
import Derived.Test.YtcahnkdnhejkkaaDoorShaWrite
import Derived.Test.YtcahnkdnhejkkaaDoorSyStr
set_option linter.all false
namespace Go.Proofs.YtcahnkdnhejkkaaDoor
open Go Go.Sy Go.Sh Go.RowKit
attribute [local irreducible] Sy SyL SyX Sy.Fn callFunc Sh.sum hcells HashIs
set_option maxRecDepth 10000
/-- The reference's table, a slice. -/
structure RTab (w : World) (M : Nat → Prop) (kb ko kc : Nat) : Prop where
  cell : w.cell? ⟨2, 0, none⟩ = some (.slice (some ⟨kb, ko, none⟩) 64 kc)
  row : w.rangeAt kb ko (kC.map Wd.vi)
  nc : ¬ M 2
  nr : ¬ M kb
theorem RTab.to {w0 w : World} {M Mi : Nat → Prop} {kb ko kc : Nat} (h : RTab w0 M kb ko kc) (hk : Keep M w0 w) (hm : ∀ b, Mi b → w0.heap.size ≤ b ∨ M b) : RTab w Mi kb ko kc := by
  obtain ⟨a1, a2⟩ := range_to h.row (by decide) h.nr hk hm
  have hlt := World.block_lt_of_cell? w0 _ h.cell
  exact ⟨hk.cell h.cell h.nc, a1, fun hb => (hm _ hb).elim (fun h' => by dsimp only at hlt; omega) h.nc, a2⟩
theorem RTab.no {w0 w : World} {M : Nat → Prop} {kb ko kc : Nat} (h : RTab w0 M kb ko kc) (hk : Keep M w0 w) : RTab w No kb ko kc := h.to hk (fun _ h => h.elim)
theorem sum_len (l : List UInt8) : (Sh.sum l).length = 32 := by
  unfold Sh.sum; rw [ser_len, fold_len _ _ rfl]
section
variable {w0 w : World} {M : Nat → Prop} {L X : List Res} {S : Nat} {l b : List UInt8} {C : List Value}
theorem write_at {a : Option Addr} {n c : Nat} (hk : Keep M w0 w) (hh : Holds w0.heap.size M (L ++ X) w) (hL : Has L (.blk S 38 C)) (hI : HashIs l C) (hn : b.length = n) (hc : n ≤ c) (hb : l.length + n < 1000000000000) (hsl : SlF w0 M a (b.map Sy.v8)) (hT : Tab w0 M) :
    Sy.Fn Tryd.prog 28 [.pointer (some ⟨S, 0, none⟩), .slice a n c] w (fun x => x = S) (fun v R => v = .int .i64 0 ∧ ∃ C', HashIs (l ++ b) C' ∧ R = [.blk S 38 C']) :=
  write_fn S l b C a n c w (hh.has (Has.append hL)) hI hn hc hb (hsl.to hk (hh.one hL)) (hT.to hk (hh.one hL))
theorem sumH_at (hk : Keep M w0 w) (hh : Holds w0.heap.size M (L ++ X) w) (hL : Has L (.blk S 38 C)) (hI : HashIs l C) (hb : l.length < 1000000000000) (hT : Tab w0 M) :
    Sy.Fn Tryd.prog 29 [.pointer (some ⟨S, 0, none⟩)] w No (Gives (.agg ((Sh.sum l).map Sy.v8).toArray)) :=
  sumH_fn S l C w (hh.has (Has.append hL)) hI hb (hT.no hk)
theorem len_at (hh : Holds w0.heap.size M (L ++ X) w) (hL : Has L (.blk S 38 C)) (hI : HashIs l C) :
    Sy.Fn Tryd.prog 30 [.pointer (some ⟨S, 0, none⟩)] w No (Gives (.int .i64 l.length)) := len_fn S l C w (hh.has (Has.append hL)) hI
end
end Go.Proofs.YtcahnkdnhejkkaaDoor
