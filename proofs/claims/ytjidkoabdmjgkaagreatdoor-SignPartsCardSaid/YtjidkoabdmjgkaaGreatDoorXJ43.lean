/- Layer sha's functions, walked: the hash of a string, the hash in progress, the blocks. -/
import Derived.Test.YtjidkoabdmjgkaaGreatDoorXJ40
import Derived.Test.YtjidkoabdmjgkaaGreatDoorXJ41
import Derived.Test.YtjidkoabdmjgkaaGreatDoorXJ42
import Derived.Test.YtjidkoabdmjgkaaGreatDoorXJ35
import Derived.Test.YtjidkoabdmjgkaaGreatDoorXJ39
import Derived.Test.YtjidkoabdmjgkaaGreatDoorXJ18
import Derived.ScopeJumps
set_option linter.all false
section
namespace Go.Proofs.YtjidkoabdmjgkaaGreatDoor
open Go Go.Sy Go.Sh Go.RowKit
attribute [local irreducible] Sy SyL SyX Sy.Fn callFunc
set_option maxRecDepth 10000
structure Tab (w : World) (M : Nat → Prop) : Prop where
  start : w.rangeAt 2 0 (h0.map Sy.v32)
  konst : w.rangeAt 3 0 (kC.map Sy.v32)
  ns : ¬ M 2
  nk : ¬ M 3
theorem Tab.to {w0 w : World} {M Mi : Nat → Prop} (h : Tab w0 M) (hk : Keep M w0 w) (hm : ∀ b, Mi b → w0.heap.size ≤ b ∨ M b) : Tab w Mi := by
  obtain ⟨a1, a2⟩ := zbl h.start (by decide) h.ns hk hm
  obtain ⟨a3, a4⟩ := zbl h.konst (by decide) h.nk hk hm
  exact ⟨a1, a3, a2, a4⟩
theorem Tab.no {w0 w : World} {M : Nat → Prop} (h : Tab w0 M) (hk : Keep M w0 w) : Tab w No := h.to hk (fun _ h => h.elim)
theorem zk3 (S T o b bo : Nat) (C : List Value) (s : List UInt32) (blk : List UInt8) (w : World) (hs : s.length = 8) (hb : blk.length = 64) (hC : (Res.blk S T C).holds w) (hseg : Seg C o (s.map Sy.v32)) (ho : o + 8 ≤ C.length)
    (hB : w.rangeAt b bo (blk.map Sy.v8)) (hK : w.rangeAt 3 0 (kC.map Sy.v32)) :
    Sy.Fn Tryz.prog 112 [.pointer (some ⟨S, o, none⟩), .slice (some ⟨b, bo, none⟩) 64 64] w (fun x => x = S) (fun v R => v = .tuple #[] ∧ R = [.blk S T (setSeg C o ((compress s blk).map Sy.v32))]) := by
  have h := zmf S o b bo s blk w hs hb (zL hC hseg) (zeu hC ho) hB hK
  unfold Sy.Fn
  refine Calls.mono h ?_
  rintro e w' ⟨rfl, hw⟩
  have hsz : (w.setCells S o ((compress s blk).map Sy.v32)).heap.size = w.heap.size := Go.Wd.size_setCells S _ o w
  have hk1 := Sy.Keep.setCells S ((compress s blk).map Sy.v32) o w
  have hk2 : Sy.Keep (fun x => x = S) (w.setCells S o ((compress s blk).map Sy.v32)) w' := Sy.Keep.of_below (by rw [hsz]; exact hw)
  have hb1 := zcu ((compress s blk).map Sy.v32) C o w hC (by rw [List.length_map, zbU _ _ hs]; exact ho)
  refine ⟨_, _, rfl, ⟨rfl, rfl⟩, hk1.trans hk2 (fun x hx => .inr hx), ⟨?_, List.pairwise_singleton _ _, ?_⟩⟩
  · intro r hr
    obtain rfl := List.mem_singleton.1 hr
    refine Res.holds_congr hb1 fun x hx => ?_
    have hx : S = x := hx
    subst hx
    exact hw.block _ (Res.own_lt hC rfl)
  · intro r hr x hx
    obtain rfl := List.mem_singleton.1 hr
    exact .inr (Eq.symm hx)
theorem zmv (S T b bo : Nat) (s : List UInt32) (blk : List UInt8) (w : World) (hs : s.length = 8) (hb : blk.length = 64) (hC : (Res.blk S T (s.map Sy.v32)).holds w)
    (hB : w.rangeAt b bo (blk.map Sy.v8)) (hK : w.rangeAt 3 0 (kC.map Sy.v32)) :
    Sy.Fn Tryz.prog 112 [.pointer (some ⟨S, 0, none⟩), .slice (some ⟨b, bo, none⟩) 64 64] w (fun x => x = S) (fun v R => v = .tuple #[] ∧ R = [.blk S T ((compress s blk).map Sy.v32)]) := by
  have h := zk3 S T 0 b bo _ s blk w hs hb hC Seg.all (by simp [hs]) hB hK
  rw [zfu (by simp [hs, zbU s blk hs])] at h
  exact h
theorem zge (s : List UInt32) (bs : List (List UInt8)) (k : Nat) (h : k < bs.length) : fold s (bs.take (k + 1)) = compress (fold s (bs.take k)) bs[k] := by
  rw [List.take_succ_eq_append_getElem h, Sh.fold_snoc]
set_option maxHeartbeats 1000000 in
theorem zkT (a0 : Option Addr) (n c : Nat) (l : List UInt8) (w : World) (hn : l.length = n) (hc : n ≤ c) (hb : n < 1000000000000) (hsl : SlA w a0 (l.map Sy.v8)) (hT : Tab w No) :
    Sy.Fn Tryz.prog 78 [.slice a0 n c] w No (Gives (.agg ((sum l).map Sy.v8).toArray)) := by
  refine zq Tryz.func78 rfl Tryz.ntmps78 (by simp) Holds.nil ?_
  have hstart := hT.start
  repeat' (first | refine zh ?_ | refine zf ?_ | refine ze ?_ | refine zj ?_ | (refine za (id := 0) ?_; (refine zm ?_; intro _)) | (refine za (id := 1) ?_; refine zz ?_; (refine zm ?_; intro _); refine zH ?_) | (refine za (id := 2) ?_; refine zb ?_; refine zb ?_; refine zA ?_) | fail)
  rename_i bo bs
  refine ys (zF (hc := fun w' X hk hh => zjy _ _ w' rfl)) (k := ?_)
  rintro _ _ ⟨R, rfl, b1, b2, rfl, rfl⟩
  repeat' (first | refine zf ?_ | refine zu ?_ | refine ze ?_ | refine zj ?_ | fail)
  refine zb6 (γ := Nat) (xs := blocks l n) (Arg := ArgB) za3 rfl (en rfl) rfl (fun k s => s = k) (fun _ _ _ => False) (fun k => [.blk bs 121 ((fold h0 ((blocks l n).take k)).map Sy.v32)])
    [.blk b1 22 [.slice a0 n c], .blk b2 3 [.int .i64 n]] [.blk bo 92 (List.replicate 32 (.int .u8 0))] 0 rfl ?_ ?_ ?_ ?_ ?_ ?_
  · exact (List.perm_append_comm (l₁ := [_, _]) (l₂ := [_])).append_right _
  · exact fun w' Mi X hk hm _ _ => zjd b1 b2 a0 n c n l w' Mi hn hc (by omega) (hsl.to hk hm)
  · rintro O x vs RA w' ⟨b, o, rfl, _⟩; rfl
  · rintro lp k hk s vs RA W rec hrec rfl ⟨b, o, rfl, rfl, hrd, hno⟩ hkW hmine
    have hT' := hT.to hkW hmine
    have hl8 : (fold h0 ((blocks l n).take s)).length = 8 := zd0 _ _ rfl
    have hl64 : (blocks l n)[s].length = 64 := zjc _ _ _ (List.getElem_mem hk)
    have hfs := zge h0 (blocks l n) s hk
    generalize fold h0 ((blocks l n).take s) = st at *
    generalize (blocks l n)[s] = x at *
    have hcl := zbU st x hl8
    repeat' (first | refine zf ?_ | refine zu ?_ | refine ze ?_ | refine zaq ?_ | (apply zbh; (focus ((repeat (first | exact Rem.here | apply Rem.there)); done)); assumption) | (refine za (id := 3) ?_; refine zd ?_) | (refine za (id := 4) ?_; refine zb ?_; refine yv (zhc (hc := fun w' X hk hh => zmv bs 121 b o st x w' hl8 hl64 (hh.has (Has.append (Has.there Has.here))) (zaw hrd hk hno) (hT'.no hk).konst)) (k := ?_)) | fail)
    refine zbY (s + 1) rfl ?_
    (repeat' (first | exact SubR.nil | (apply SubR.same; with_reducible (focus ((repeat (first | exact Rem.here | apply Rem.there)); done))) | (apply SubR.blk; (focus ((repeat (first | exact Rem.here | apply Rem.there)); done))) | (apply SubR.pick; (focus ((repeat (first | exact Rem.here | apply Rem.there)); done))) | rfl))
    rw [hfs]
  · rintro s rfl
    rw [List.take_length]
    have hf8 : (fold h0 (blocks l n)).length = 8 := zd0 _ _ rfl
    have hsum : ser (fold h0 (blocks l n)) = sum l := by subst hn; rfl
    generalize fold h0 (blocks l n) = st at *
    have hs32 : (ser st).length = 32 := by rw [ziF, hf8]
    repeat' (first | refine zh ?_ | refine zf ?_ | refine zp ?_ | refine ze ?_ | refine zj ?_ | (refine za (id := 5) ?_; refine zz ?_; refine yv (zi (hc := fun w' _ _ _ => zjs st w' hf8)) (k := ?_); refine zH ?_) | fail)
    exact ret1 rfl (resCells rfl (ty rfl) rfl Has.go Seg.all (by first | rfl | (simp only [List.length_map, List.length_set, List.length_replicate, List.length_append]; omega) | (simp only [List.length_map]; first | assumption | omega) | (simp; omega) | fail)) SubR.nil ⟨by rw [hsum], rfl⟩
  · exact fun _ _ _ _ h => h.elim
theorem zl0 (l : List UInt8) : (Sh.sum l).length = 32 := by
  unfold Sh.sum; rw [ziF, zd0 _ _ rfl]
end Go.Proofs.YtjidkoabdmjgkaaGreatDoor
end
section
namespace Go.Proofs.YtjidkoabdmjgkaaGreatDoor
open Go Go.Sy Go.Nt Go.RowKit
attribute [local irreducible] Sy SyL SyX Sy.Fn callFunc natC rowN refC iC gP gQ gL memB safeC fixB gnum gel gsca chal Sh.sum
set_option maxRecDepth 10000
def chalB (i : Nat) (y : List UInt8) (r : Nat) (m : List UInt8) : List UInt8 := UInt8.ofNat i :: (y ++ (fixB (gL i) r ++ m))
theorem zmG (i : Nat) (y : List UInt8) (r : Nat) (m : List UInt8) : chal i y r m = bev 256 (bn (Sh.sum (chalB i y r m))) % gQ i := by unfold chal chalB; rfl
theorem zhd {i : Nat} (h0 : 1 ≤ i) (h5 : i ≤ 4) (l : List UInt8) : gsca (i : Int) l = (bev 256 (bn l) % gQ i, 0) := by
  unfold gsca; rw [if_pos ⟨by omega, by omega⟩, Int.toNat_natCast]
theorem zhz {A J : List Value} : Seg (A ++ J) 0 A := fun j v hj => by
  rw [Nat.zero_add, List.getElem?_append_left (List.getElem?_eq_some_iff.1 hj).1]; exact hj
theorem zaD {B0 : Nat} {w : World} {M : Nat → Prop} {E n c : Nat} {a : Option Addr} {l : List UInt8} {L : List Res} (hh : Holds B0 M L w) (hl : l.length = n) (hL : Has L (.row (.slice a n c) E 1 n (l.map v8))) : (⟨a, n, c, l⟩ : Bs).ok w :=
  ⟨hl, Row.cap hh hL, z9 hh hL, fun h => (Row.nil hh hL h).1⟩
set_option maxHeartbeats 1000000 in
theorem zeE (i : Nat) (pa ma : Option Addr) (pn pc mn mc r : Nat) (pl ml : List UInt8) (w : World) (h0 : 1 ≤ i) (h5 : i ≤ 4) (hG : GT w) (hT : Tab w No) (hp : (⟨pa, pn, pc, pl⟩ : Bs).ok w) (hm : (⟨ma, mn, mc, ml⟩ : Bs).ok w) (hpn : pn ≤ 1000) (hmn : mn ≤ 100000) (hr : memB (gP i) (gQ i) r = true) :
    Sy.Fn Tryz.prog 29 [.int .i64 (i : Int), .slice pa pn pc, natV r, .slice ma mn mc] w No (Gives (natV (chal i pl r ml))) := by
  refine zq Tryz.func29 rfl Tryz.ntmps29 (by simp) Holds.nil ?_
  have hrW := Nat.lt_trans (zbE hr) (zaH i h0 h5)
  have hlr := zg r
  have hu := zl6 i h5
  have hby := fun w' (hk : Keep No w w') => zeJ i r w' h0 h5 (hG.to hk) hrW hr
  unfold FixG at hby
  have hfl := za5 (gL i) r (zfw h0 h5 (zbE hr))
  have hgl : gL i ≤ 96 := by have := zcO (z := (i : Int)) ⟨by omega, by omega⟩; rwa [Int.toNat_natCast] at this
  have hd := fun a n c w' => zhV a n c 0 w'
  have hcb : chalB i pl r ml = Bs.cat [⟨none, 1, 1, [UInt8.ofNat i]⟩, ⟨pa, pn, pc, pl⟩, ⟨none, gL i, 0, fixB (gL i) r⟩, ⟨ma, mn, mc, ml⟩] := by unfold chalB Bs.cat; simp
  have hcl : (chalB i pl r ml).length < 1000000 := by
    unfold chalB
    rw [List.length_cons, List.length_append, List.length_append, hfl, hp.len, hm.len]
    show pn + (gL i + mn) + 1 < 1000000
    omega
  have hj : ∀ w', Keep No w w' → ∀ b21 b12 aF cF, w'.rangeAt b12 0 ([UInt8.ofNat i].map v8) → (⟨aF, gL i, cF, fixB (gL i) r⟩ : Bs).ok w' → w'.rangeAt b21 0 [Value.slice (some ⟨b12, 0, none⟩) 1 1, .slice pa pn pc, .slice aF (gL i) cF, .slice ma mn mc] →
      Sy.Fn Tryz.prog 79 [.slice (some ⟨b21, 0, none⟩) 4 4, .slice none 0 0] w' No (HeadOf (chalB i pl r ml)) := by
    intro w' hk b21 b12 aF cF h12 hF h21
    have h := zmF (some ⟨b21, 0, none⟩) 4 4 [⟨some ⟨b12, 0, none⟩, 1, 1, [UInt8.ofNat i]⟩, ⟨pa, pn, pc, pl⟩, ⟨aF, gL i, cF, fixB (gL i) r⟩, ⟨ma, mn, mc, ml⟩] w' rfl (by decide) (by decide) (by decide) (.inr ⟨b21, 0, rfl, h21⟩) (fun s hs => ?_) (by
        have : Bs.cat [⟨some ⟨b12, 0, none⟩, 1, 1, [UInt8.ofNat i]⟩, ⟨pa, pn, pc, pl⟩, ⟨aF, gL i, cF, fixB (gL i) r⟩, ⟨ma, mn, mc, ml⟩] = chalB i pl r ml := by rw [hcb]; rfl
        rw [this]; omega)
    · have e : Bs.cat [⟨some ⟨b12, 0, none⟩, 1, 1, [UInt8.ofNat i]⟩, ⟨pa, pn, pc, pl⟩, ⟨aF, gL i, cF, fixB (gL i) r⟩, ⟨ma, mn, mc, ml⟩] = chalB i pl r ml := by rw [hcb]; rfl
      rw [e] at h
      exact h
    · simp only [List.mem_cons, List.not_mem_nil, or_false] at hs
      rcases hs with rfl | rfl | rfl | rfl
      · exact ⟨rfl, Nat.le_refl _, .inr ⟨b12, 0, rfl, h12⟩, fun h => by cases h⟩
      · exact hp.keep hk
      · exact hF
      · exact hm.keep hk
  have hsum := fun w' b (hk : Keep No w w') (h : w'.rangeAt b 0 ((chalB i pl r ml).map v8)) => zkT (some ⟨b, 0, none⟩) (chalB i pl r ml).length (chalB i pl r ml).length (chalB i pl r ml) w' rfl (Nat.le_refl _) (by omega) (.inr ⟨b, 0, rfl, h⟩) (hT.no hk)
  have hs32 := zl0 (chalB i pl r ml)
  have hsc := fun w' b (hk : Keep No w w') (h : w'.rangeAt b 0 ((Sh.sum (chalB i pl r ml)).map v8)) => zfN i (some ⟨b, 0, none⟩) 32 32 (Sh.sum (chalB i pl r ml)) w' h0 h5 (hG.to hk) hs32 (Nat.le_refl _) (by decide) (.inr ⟨b, 0, rfl, h⟩)
  rw [← zmG] at hsc
  have hdn := fun w' => zbk (chal i pl r ml) 0 w'
  have hle := zg (chal i pl r ml)
  generalize Sh.sum (chalB i pl r ml) = H at *
  generalize chal i pl r ml = e at *
  generalize chalB i pl r ml = B at *
  generalize fixB (gL i) r = lb at *
  generalize gL i = len at *
  repeat' (first | refine zh ?_ | refine zf ?_ | refine ze ?_ | refine zj ?_ | (refine za (id := 0) ?_; (refine zm ?_; intro _); (refine zm ?_; intro _)) | (refine za (id := 1) ?_; refine zb ?_; refine yv (zaM (hr := hu)) (k := ?_); (refine ys zJ (k := ?_); rintro _ _ ⟨_, rfl, rfl⟩); refine zb ?_; refine zb ?_; refine yv (zl (B := natC r)) (k := ?_); (refine ys (zF (f := 31) (hc := fun w' X hk hh => hby w' hk)) (k := ?_); rintro _ _ ⟨R, rfl, aF, cF, rfl, rfl⟩); refine zk ?_; refine zk ?_; refine yv (zi (hc := fun _ _ _ _ => (hd _ _ _ _))) (k := ?_); refine zb ?_; (refine ys zJ (k := ?_); rintro _ _ ⟨_, rfl, rfl⟩)) | fail)
  rename_i b6 b8 b12 b21
  refine ys (zF (f := 79) (hc := fun w' X hk hh => hj w' hk b21 b12 aF cF (zL (hh.has (r := .blk b12 5 ([UInt8.ofNat i].map v8)) (by exact Has.append Has.go)) Seg.all) (zaD (E := 5) hh hfl (by exact Has.append Has.go)) (zL (hh.has (r := .blk b21 22 [Value.slice (some ⟨b12, 0, none⟩) 1 1, .slice pa pn pc, .slice aF len cF, .slice ma mn mc]) (by exact Has.append Has.go)) Seg.all))) (k := ?_)
  rintro _ _ ⟨R, rfl, bJ, J, rfl, rfl⟩
  repeat' (first | refine zh ?_ | refine zf ?_ | refine zp ?_ | refine ze ?_ | refine zj ?_ | (refine za (id := 2) ?_; refine zb ?_; refine zbn ?_; refine yv (zi (f := 27) (hc := fun w' X hk hh => hsc w' _ hk (zL (hh.has (by exact Has.append Has.go)) Seg.all))) (k := ?_); refine zk ?_; refine zk ?_; refine yv (zi (hc := fun _ _ _ _ => (hdn _))) (k := ?_); refine yn (zn (n := e)) (k := ?_)) | (refine zT ?_; first | refine yv (zi (f := 78) (hc := fun w' X hk hh => hsum w' bJ hk (zL (hh.has (r := .blk bJ 5 (B.map v8 ++ J)) (by exact Has.append Has.go)) zhz))) (k := ?_) | refine zH ?_ | (refine zm ?_; intro _) | fail) | fail)
  exact ret1 rfl (resCells (B := natC e) rfl (ty rfl) rfl Has.go Seg.all (zg _).symm) SubR.nil ⟨rfl, rfl⟩
end Go.Proofs.YtjidkoabdmjgkaaGreatDoor
end
section
namespace Go
section
variable {F : Fence} {n : Nat} {P : Program} {Q : Exit → Act → World → Prop} {a : Act} {w : World}
theorem zgQ {c rest : Code} (l : Nat) (J : Act → World → Prop) (hf : findLabel c l = some rest) (first : c.wpIn F n P (Exit.jump l J Q) a w)
    (pass : ∀ a w, J a w → rest.wpIn F n P (Exit.noGoto Q) a w) : (Code.scope c).wpIn F n P Q a w := by
  intro b k cs hro hb hr
  have h0 : (lone (b.atR a (.code (.scope c) :: k)) cs w).fenced P F := fenced_calm hb hr rfl
  have hg : gotoIn l (.inScope c :: k) = some (.code rest :: .inScope c :: k) := by simp [gotoIn, hf]
  have hx : ∀ id', exitTo id' (.inScope c :: k) = exitTo id' k := fun id' => by simp [exitTo]
  obtain ⟨e, a₁, w₁, hq, harr⟩ := first b (.inScope c :: k) cs hro hb hr
  cases e with
  | normal => exact ⟨.normal, a₁, w₁, hq, .head h0 zal (StepsIn.trans harr (.one (fenced_calm hb hr rfl) zcz))⟩
  | exit id' =>
    exact ⟨.exit id', a₁, w₁, hq, fun k' hk => .head h0 zal (harr.1 k' (by rw [hx]; exact hk)),
      fun hr' hk => let ⟨k₁, h1, h2⟩ := harr.2 hr' (by rw [hx]; exact hk); ⟨k₁, h1, .head h0 zal h2⟩⟩
  | goto l' =>
    obtain ⟨rfl, hJ⟩ := hq
    have hto := StepsIn.head h0 zal (harr.1 _ hg)
    obtain ⟨e, a₂, w₂, hq, har⟩ := pass a₁ w₁ hJ b (.inScope c :: k) cs hro hb hr
    cases e with
    | normal => exact ⟨.normal, a₂, w₂, hq, hto.trans (StepsIn.trans har (.one (fenced_calm hb hr rfl) zcz))⟩
    | exit id' =>
      exact ⟨.exit id', a₂, w₂, hq, fun k' hk => hto.trans (har.1 k' (by rw [hx]; exact hk)),
        fun hr' hk => let ⟨k₁, h1, h2⟩ := har.2 hr' (by rw [hx]; exact hk); ⟨k₁, h1, hto.trans h2⟩⟩
    | goto l => exact hq.elim
    | ret => exact ⟨_, a₂, w₂, hq, .of_steps hto har⟩
    | panic ch => exact ⟨_, a₂, w₂, hq, .of_steps hto har⟩
    | outgrown => exact ⟨_, a₂, w₂, hq, .of_steps hto har⟩
  | ret => exact ⟨_, a₁, w₁, hq, .of_steps (.one h0 zal) harr⟩
  | panic ch => exact ⟨_, a₁, w₁, hq, .of_steps (.one h0 zal) harr⟩
  | outgrown => exact ⟨_, a₁, w₁, hq, .of_steps (.one h0 zal) harr⟩
end
end Go
namespace Go.Sy
open Go
section
variable {P : Program} {ro : Option Nat} {N : Nat} {w0 : World} {M : Nat → Prop} {ds : List Deferred} {L : List Res} {fr : Fr} {Q : Exit → Act → World → Prop}
theorem zeX {γ : Type} (l : Nat) {c rest : Code} (f : γ → Fr) (R : γ → List Res) (I : γ → Prop) (hf : findLabel c l = some rest) (h : Sy P ro N w0 M ds c (Exit.jump l (CutK N w0 M ds f R I) Q) fr L)
    (h2 : ∀ g, I g → Sy P ro N w0 M ds rest (Exit.noGoto Q) (f g) (R g)) : Sy P ro N w0 M ds (.scope c) Q fr L :=
  fun a w hs => zgQ l _ hf (h a w hs) (fun a w hJ => by obtain ⟨g, hI, hst⟩ := hJ; exact h2 g hI a w hst)
theorem zcF {l : Nat} {J : Act → World → Prop} (h : SyX N w0 M ds J fr L) : SyX N w0 M ds (Exit.jump l J Q (.goto l)) fr L := fun a w hs => ⟨rfl, h a w hs⟩
end
end Go.Sy
end
