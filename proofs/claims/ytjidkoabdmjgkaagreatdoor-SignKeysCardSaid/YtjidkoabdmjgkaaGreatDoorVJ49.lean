/- The statements about layer sign, walked: the chapter's examples, SignKeys, SignSigns, SignVerifies. -/
import Derived.Test.YtjidkoabdmjgkaaGreatDoorVJ48
set_option linter.all false
section
namespace Go.Proofs.YtjidkoabdmjgkaaGreatDoor
open Go Go.Sy Go.Nt Go.RowKit
attribute [local irreducible] Sy SyL SyX Sy.Fn callFunc natC rowN refC iC gP gQ gL memB safeC fixB gnum gel gsca chal Sh.sum glen sPriv sPub sSig sVer
set_option maxRecDepth 10000
set_option maxHeartbeats 2000000 in
theorem zed (w : World) (hG : GT w) (hT : Tab w No) (hS : ST w) : Sy.Fn Tryz.prog 9 [] w No (Gives (.bool true)) := by
  refine zq Tryz.func9 rfl Tryz.ntmps9 (by simp) Holds.nil ?_
  have nm := fun e w' => zea e w'
  have hP1 := fun w' b (hk : Keep No w w') (h : (⟨some ⟨b, 0, none⟩, 1, 1, [6]⟩ : Bs).ok w') => (zgM 1 (some ⟨b, 0, none⟩) 1 1 [6] w' (hG.to hk) h.len h.cap (by decide) h.sla).mono (zcc (l := [0, 6]) (n := 2) (e := 0) (by rw [zjC]; rfl) rfl (by rw [zjC]; rfl))
  have hU1 := fun w' b (hk : Keep No w w') (h : (⟨some ⟨b, 0, none⟩, 2, 2, [0, 6]⟩ : Bs).ok w') => (zgo 1 (some ⟨b, 0, none⟩) 2 2 [0, 6] w' (hG.to hk) h.len h.cap h.sla).mono (zcc (l := [4, 193]) (n := 2) (e := 0) (by rw [zgi]; rfl) rfl (by rw [zgi]; rfl))
  have hP2 := fun w' b (hk : Keep No w w') (h : (⟨some ⟨b, 0, none⟩, 2, 2, [5, 159]⟩ : Bs).ok w') => (zgM 1 (some ⟨b, 0, none⟩) 2 2 [5, 159] w' (hG.to hk) h.len h.cap (by decide) h.sla).mono (zcc (l := []) (n := 0) (e := 2) (by rw [zi9]; rfl) rfl (by rw [zi9]; rfl))
  have hU2 := fun w' b (hk : Keep No w w') (h : (⟨some ⟨b, 0, none⟩, 1, 1, [6]⟩ : Bs).ok w') => (zgo 1 (some ⟨b, 0, none⟩) 1 1 [6] w' (hG.to hk) h.len h.cap h.sla).mono (zcc (l := []) (n := 0) (e := 2) (by rw [zkk]; rfl) rfl (by rw [zkk]; rfl))
  have hU3 := fun w' b (hk : Keep No w w') (h : (⟨some ⟨b, 0, none⟩, 2, 2, [0, 6]⟩ : Bs).ok w') => (zgo 9 (some ⟨b, 0, none⟩) 2 2 [0, 6] w' (hG.to hk) h.len h.cap h.sla).mono (zcc (l := []) (n := 0) (e := 2) (by rw [zkE]; rfl) rfl (by rw [zkE]; rfl))
  obtain ⟨s, s1, s2, s3, s4⟩ := zot [109] (by decide)
  have hSg := fun w' b b' b'' (hk : Keep No w w') (h : (⟨some ⟨b, 0, none⟩, 2, 2, [0, 6]⟩ : Bs).ok w') (h' : (⟨some ⟨b', 0, none⟩, 1, 1, [7]⟩ : Bs).ok w') (h'' : (⟨some ⟨b'', 0, none⟩, 1, 1, [109]⟩ : Bs).ok w') => (zjH 1 (some ⟨b, 0, none⟩) (some ⟨b', 0, none⟩) (some ⟨b'', 0, none⟩) 2 2 1 1 1 1 [0, 6] [7] [109] w' (hG.to hk) (hT.no hk) h h' h'' (by decide) (by decide)).mono (zcc (l := s) (n := 4) (e := 0) (by rw [s1]; rfl) s2 (by rw [s1]; rfl))
  have hV1 := fun w' a c b a' c' (hk : Keep No w w') (h : (⟨a, 2, c, [4, 193]⟩ : Bs).ok w') (h' : (⟨some ⟨b, 0, none⟩, 1, 1, [109]⟩ : Bs).ok w') (h'' : (⟨a', 4, c', s⟩ : Bs).ok w') => ze6 1 a (some ⟨b, 0, none⟩) a' 2 c 1 1 4 c' [4, 193] [109] s w' (hG.to hk) (hT.no hk) (hS.to hk) h h' h'' (by decide) (by decide) (by decide)
  rw [s3] at hV1
  have hV2 := fun w' a c b a' c' (hk : Keep No w w') (h : (⟨a, 2, c, [4, 193]⟩ : Bs).ok w') (h' : (⟨some ⟨b, 0, none⟩, 1, 1, [109]⟩ : Bs).ok w') (h'' : (⟨a', 3, c', s.take 3⟩ : Bs).ok w') => ze6 1 a (some ⟨b, 0, none⟩) a' 2 c 1 1 3 c' [4, 193] [109] (s.take 3) w' (hG.to hk) (hT.no hk) (hS.to hk) h h' h'' (by decide) (by decide) (by decide)
  rw [s4] at hV2
  have hl1 := fun w' (hk : Keep No w w') => zft 1 w' (hG.to hk)
  have hl4 := fun w' (hk : Keep No w w') => zft 4 w' (hG.to hk)
  rw [show glen 1 = 2 from by decide +kernel] at hl1
  rw [show glen 4 = 96 from by decide +kernel] at hl4
  unfold BRx at hP1 hU1 hP2 hU2 hU3 hSg
  clear s1 s3 s4
  repeat' (first | refine zg ?_ | refine zf ?_ | refine ze ?_ | refine zj ?_ | (refine za (id := 0) ?_; refine zd ?_) | (refine za (id := 1) ?_; (refine ys zR (k := ?_); rintro _ _ ⟨_, rfl, rfl⟩); (refine ys (zy (f := 18) (hc := fun w' X hk hh => hP1 w' _ hk (zdv (E := 5) (l := [6]) hh rfl (by exact Has.append Has.go)))) (k := ?_); rintro _ _ ⟨R, rfl, a1, c1, rfl, rfl⟩); refine zb ?_; refine zk ?_; refine zk ?_; refine zd ?_; refine zd ?_) | fail)
  repeat' (first | refine zg ?_ | refine zf ?_ | refine ze ?_ | refine zj ?_ | (refine za (id := 2) ?_; (refine ys zR (k := ?_); rintro _ _ ⟨_, rfl, rfl⟩); (refine ys (zy (f := 20) (hc := fun w' X hk hh => hU1 w' _ hk (zdv (E := 5) (l := [0, 6]) hh rfl (by exact Has.append Has.go)))) (k := ?_); rintro _ _ ⟨R, rfl, a2, c2, rfl, rfl⟩); refine zb ?_; refine zk ?_; refine zk ?_; refine zd ?_; refine zd ?_) | fail)
  repeat' (first | refine zg ?_ | refine zf ?_ | refine ze ?_ | refine zj ?_ | (refine za (id := 3) ?_; (refine ys zR (k := ?_); rintro _ _ ⟨_, rfl, rfl⟩); (refine ys (zy (f := 18) (hc := fun w' X hk hh => hP2 w' _ hk (zdv (E := 5) (l := [5, 159]) hh rfl (by exact Has.append Has.go)))) (k := ?_); rintro _ _ ⟨R, rfl, a3, c3, rfl, rfl⟩); refine zb ?_; refine zk ?_; refine zk ?_; refine zd ?_; refine zd ?_) | fail)
  repeat' (first | refine zg ?_ | refine zf ?_ | refine ze ?_ | refine zj ?_ | (refine za (id := 4) ?_; (refine ys zR (k := ?_); rintro _ _ ⟨_, rfl, rfl⟩); (refine ys (zy (f := 20) (hc := fun w' X hk hh => hU2 w' _ hk (zdv (E := 5) (l := [6]) hh rfl (by exact Has.append Has.go)))) (k := ?_); rintro _ _ ⟨R, rfl, a4, c4, rfl, rfl⟩); refine zb ?_; refine zk ?_; refine zk ?_; refine zd ?_; refine zd ?_) | fail)
  repeat' (first | refine zg ?_ | refine zf ?_ | refine ze ?_ | refine zj ?_ | (refine za (id := 5) ?_; (refine ys zR (k := ?_); rintro _ _ ⟨_, rfl, rfl⟩); (refine ys (zy (f := 20) (hc := fun w' X hk hh => hU3 w' _ hk (zdv (E := 5) (l := [0, 6]) hh rfl (by exact Has.append Has.go)))) (k := ?_); rintro _ _ ⟨R, rfl, a5, c5, rfl, rfl⟩); refine zb ?_; refine zk ?_; refine zk ?_; refine zd ?_; refine zd ?_) | fail)
  refine Sy.weaken (fr' := [(1, .slice a1 2 c1), (2, .int .i64 0), (3, .slice a2 2 c2), (4, .int .i64 0), (6, .int .i64 2), (8, .int .i64 2), (10, .int .i64 2)]) (L' := [.row (.slice a1 2 c1) 5 1 2 (([0, 6] : List UInt8).map v8), .row (.slice a2 2 c2) 5 1 2 (([4, 193] : List UInt8).map v8)]) ?_ (by exact Sub.go) (by exact SubR.go2)
  repeat' (first | refine zg ?_ | refine zf ?_ | refine ze ?_ | refine zj ?_ | (refine za (id := 6) ?_; (refine ys zR (k := ?_); rintro _ _ ⟨_, rfl, rfl⟩); (refine ys zR (k := ?_); rintro _ _ ⟨_, rfl, rfl⟩); (refine ys zR (k := ?_); rintro _ _ ⟨_, rfl, rfl⟩); refine zbT ?_; (refine ys (zy (f := 10) (hc := fun w' X hk hh => hSg w' _ _ _ hk (zdv (E := 5) (l := [0, 6]) hh rfl (by exact Has.append Has.go)) (zdv (E := 5) (l := [7]) hh rfl (by exact Has.append Has.go)) (zh7 (E := 5) (l := [109]) hk hh rfl Has.go))) (k := ?_); rintro _ _ ⟨R, rfl, aS, cS, rfl, rfl⟩); refine zb ?_; refine zk ?_; refine zk ?_; refine zd ?_; refine zd ?_) | fail)
  refine Sy.weaken (fr' := [(1, .slice a1 2 c1), (2, .int .i64 0), (3, .slice a2 2 c2), (4, .int .i64 0), (6, .int .i64 2), (8, .int .i64 2), (10, .int .i64 2), (11, .slice aS 4 cS), (12, .int .i64 0)]) (L' := [.row (.slice a1 2 c1) 5 1 2 (([0, 6] : List UInt8).map v8), .row (.slice a2 2 c2) 5 1 2 (([4, 193] : List UInt8).map v8), .row (.slice aS 4 cS) 5 1 4 (s.map v8)]) ?_ (by exact Sub.go) (by exact SubR.go2)
  repeat' (first | refine zg ?_ | refine zf ?_ | refine zw rfl ?_ | refine zt ?_ | refine ze ?_ | refine zj ?_ | (refine za (id := 7) ?_; refine zb ?_; refine yv (zi (hc := fun _ _ _ _ => (nm _ _))) (k := ?_); refine zb ?_; refine yv (zi (hc := fun _ _ _ _ => (nm _ _))) (k := ?_); refine zaf ?_; refine zb ?_; refine yv (zi (hc := fun _ _ _ _ => (nm _ _))) (k := ?_); refine zaf ?_; refine z8 ?_; refine zb ?_; refine zb ?_; refine yv (zbu (l := [0, 6]) (hr := Rd.row Has.go)) (k := ?_); refine yv (zfW (a := [0, 6]) (b := [0, 6]) (hr := rfl)) (k := ?_); refine zz ?_; refine zb ?_; refine zb ?_; refine yv (zbu (l := [4, 193]) (hr := Rd.row Has.go)) (k := ?_); refine yv (zfW (a := [4, 193]) (b := [4, 193]) (hr := rfl)) (k := ?_); refine zz ?_; refine zb ?_; refine yv (zi (f := 24) (hc := fun w' _ hk _ => hl1 w' hk)) (k := ?_); refine z8 ?_; refine zz ?_; refine zb ?_; refine yv (zi (f := 24) (hc := fun w' _ hk _ => hl4 w' hk)) (k := ?_); refine z8 ?_; refine zz ?_; refine zb ?_; refine zb ?_; refine yv (zi (hc := fun _ _ _ _ => (nm _ _))) (k := ?_); refine z8 ?_; refine zz ?_; refine zb ?_; refine zb ?_; refine yv (zi (hc := fun _ _ _ _ => (nm _ _))) (k := ?_); refine z8 ?_; refine zz ?_; refine zb ?_; refine zb ?_; refine yv (zi (hc := fun _ _ _ _ => (nm _ _))) (k := ?_); refine z8 ?_; refine zz ?_; refine zb ?_; refine zb ?_; refine zB ?_; refine z8 ?_; refine zz ?_) | fail)
  refine zcx (fun w' hh => (Row.cap hh (a := aS) (n := 4) (c := cS) Has.go : 4 ≤ cS)) fun hcS => ?_
  repeat' (first | refine zf ?_ | refine zo ?_ | refine ze ?_ | refine zj ?_ | (refine za (id := 9) ?_; refine zb ?_; (refine ys zR (k := ?_); rintro _ _ ⟨_, rfl, rfl⟩); refine zbT ?_; refine zb ?_; refine yv (zi (f := 13) (hc := fun w' X hk hh => hV1 w' _ _ _ _ _ hk (zdR (E := 5) (l := [4, 193]) hh rfl (by exact Has.append Has.go)) (zh7 (E := 5) (l := [109]) hk hh rfl Has.go) (zdR (E := 5) (l := s) hh s2 (by exact Has.append Has.go)))) (k := ?_); refine yv (zi (hc := fun _ _ _ _ => (nm _ _))) (k := ?_); refine zbv ?_; refine zb ?_; refine zb ?_; (refine ys zR (k := ?_); rintro _ _ ⟨_, rfl, rfl⟩); refine zbT ?_; refine zb ?_; refine yv (zaQ (h := 3) (n' := 3) (c' := cS) (a' := aS)) (k := ?_); refine yv (zi (f := 13) (hc := fun w' X hk hh => hV2 w' _ _ _ _ _ hk (zdR (E := 5) (l := [4, 193]) hh rfl (by exact Has.append Has.go)) (zh7 (E := 5) (l := [109]) hk hh rfl Has.go) (znn (E := 5) (l := s) (n := 4) hh s2 (by decide) (by exact Has.append Has.go)))) (k := ?_); refine yv (zi (hc := fun _ _ _ _ => (nm _ _))) (k := ?_); refine zbv ?_; refine zz ?_; refine zd ?_) | fail)
  exact ret1 rfl (resTmp rfl) SubR.nil ⟨rfl, rfl⟩
set_option maxHeartbeats 1000000 in
theorem zhI (z : Int) (a1 a2 a3 : Option Addr) (n1 c1 n2 c2 n3 c3 kb ko kc : Nat) (l1 l2 l3 : List UInt8) (w : World) (hG : GT w) (hT : Tab w No) (hR : RTab w No kb ko kc) (hS : ST w) (h1 : (⟨a1, n1, c1, l1⟩ : Bs).ok w) (h2 : (⟨a2, n2, c2, l2⟩ : Bs).ok w) (h3 : (⟨a3, n3, c3, l3⟩ : Bs).ok w) :
    Sy.Fn Tryz.prog 3 [.int .i64 z, .slice a1 n1 c1, .slice a2 n2 c2, .slice a3 n3 c3] w No (Gives (.bool true)) := by
  refine zq Tryz.func3 rfl Tryz.ntmps3 (by simp) Holds.nil ?_
  have hkn := fun w' (hk : Keep No w w') => zed w' (hG.to hk) (hT.no hk) (hS.to hk)
  by_cases b1 : 200 < n1
  · repeat' (first | refine zg ?_ | refine zf ?_ | refine zu rfl ?_ | refine zo ?_ | refine ze ?_ | refine zj ?_ | refine zx ?_ | (refine za (id := 0) ?_; refine zd ?_) | (refine za (id := 1) ?_; refine zb ?_; refine zB ?_; refine z6 ?_; refine zb ?_; refine zp rfl rfl rfl ?_; refine zp rfl rfl rfl ?_; refine zp rfl rfl rfl ?_; refine zz ?_; refine zb ?_; refine zp rfl rfl rfl ?_; refine zp rfl rfl rfl ?_; refine zp rfl rfl rfl ?_; refine zz ?_) | (refine za (id := 2) ?_; refine yv (zi (f := 9) (hc := fun w' _ hk _ => hkn w' hk)) (k := ?_); refine zd ?_) | fail)
    exact ret1 rfl (resTmp rfl) SubR.nil ⟨rfl, rfl⟩
  by_cases b2 : 200 < n2
  · repeat' (first | refine zg ?_ | refine zf ?_ | refine zu rfl ?_ | refine zo ?_ | refine ze ?_ | refine zj ?_ | refine zx ?_ | (refine za (id := 0) ?_; refine zd ?_) | (refine za (id := 1) ?_; refine zb ?_; refine zB ?_; refine z6 ?_; refine zb ?_; refine zb ?_; refine zB ?_; refine z6 ?_; refine zz ?_; refine zb ?_; refine zp rfl rfl rfl ?_; refine zp rfl rfl rfl ?_; refine zp rfl rfl rfl ?_; refine zz ?_) | (refine za (id := 2) ?_; refine yv (zi (f := 9) (hc := fun w' _ hk _ => hkn w' hk)) (k := ?_); refine zd ?_) | fail)
    exact ret1 rfl (resTmp rfl) SubR.nil ⟨rfl, rfl⟩
  by_cases b3 : 200 < n3
  · repeat' (first | refine zg ?_ | refine zf ?_ | refine zu rfl ?_ | refine zo ?_ | refine ze ?_ | refine zj ?_ | refine zx ?_ | (refine za (id := 0) ?_; refine zd ?_) | (refine za (id := 1) ?_; refine zb ?_; refine zB ?_; refine z6 ?_; refine zb ?_; refine zb ?_; refine zB ?_; refine z6 ?_; refine zz ?_; refine zb ?_; refine zb ?_; refine zB ?_; refine z6 ?_; refine zz ?_) | (refine za (id := 2) ?_; refine yv (zi (f := 9) (hc := fun w' _ hk _ => hkn w' hk)) (k := ?_); refine zd ?_) | fail)
    exact ret1 rfl (resTmp rfl) SubR.nil ⟨rfl, rfl⟩
  have nm := fun e w' => zea e w'
  have hA := fun w' (hk : Keep No w w') => (zjH z a1 a2 a3 n1 c1 n2 c2 n3 c3 l1 l2 l3 w' (hG.to hk) (hT.no hk) (h1.keep hk) (h2.keep hk) (h3.keep hk) (by omega) (by omega)).mono (zcc rfl rfl rfl)
  have hB := fun w' (hk : Keep No w w') => (zl8 z a1 a2 a3 n1 c1 n2 c2 n3 c3 kb ko kc l1 l2 l3 w' (hR.no hk) (h1.keep hk) (h2.keep hk) (h3.keep hk) (by omega) (by omega)).mono (zcc rfl rfl rfl)
  unfold BRx at hA hB
  obtain ⟨l, hl⟩ : ∃ l, l = (sSig z l1 l2 l3).getD [] := ⟨_, rfl⟩
  obtain ⟨n, hn⟩ : ∃ n, n = l.length := ⟨_, rfl⟩
  rw [← hl, ← hn] at hA hB
  generalize (if (sSig z l1 l2 l3).isSome then (0 : Int) else 2) = e at *
  have hnl : l.length = n := hn.symm
  repeat' (first | refine zg ?_ | refine zf ?_ | refine zw rfl ?_ | refine zt ?_ | refine zo ?_ | refine ze ?_ | refine zj ?_ | (refine za (id := 0) ?_; refine zd ?_) | (refine za (id := 1) ?_; refine zb ?_; refine zB ?_; refine z6 ?_; refine zb ?_; refine zb ?_; refine zB ?_; refine z6 ?_; refine zz ?_; refine zb ?_; refine zb ?_; refine zB ?_; refine z6 ?_; refine zz ?_) | (refine za (id := 3) ?_; refine zb ?_; refine zb ?_; refine zb ?_; refine zb ?_; (refine ys (zy (f := 10) (hc := fun w' X hk hh => hA w' hk)) (k := ?_); rintro _ _ ⟨R, rfl, aA, cA, rfl, rfl⟩); refine zb ?_; refine zk ?_; refine zk ?_; refine zd ?_; refine zd ?_) | (refine za (id := 4) ?_; refine zb ?_; refine zb ?_; refine zb ?_; refine zb ?_; (refine ys (zy (f := 11) (hc := fun w' X hk hh => hB w' hk)) (k := ?_); rintro _ _ ⟨R, rfl, aB, cB, rfl, rfl⟩); refine zb ?_; refine zk ?_; refine zk ?_; refine zd ?_; refine zd ?_) | (refine za (id := 5) ?_; refine zb ?_; refine yv (zbu (l := l) (hr := Rd.row Has.go) (hn := hnl)) (k := ?_); refine zb ?_; refine yv (zbu (l := l) (hr := Rd.row Has.go) (hn := hnl)) (k := ?_); refine yv (zbr (a := l) (b := l) (hr := decide_eq_true rfl)) (k := ?_); refine zb ?_; refine zb ?_; refine yv (zi (hc := fun _ _ _ _ => (nm _ _))) (k := ?_); refine zb ?_; refine yv (z3 (hr := decide_eq_true rfl)) (k := ?_); refine zz ?_; refine zb ?_; refine yv (zi (f := 9) (hc := fun w' _ hk _ => hkn w' hk)) (k := ?_); refine zz ?_; refine zd ?_) | fail)
  exact ret1 rfl (resTmp rfl) SubR.nil ⟨rfl, rfl⟩
set_option maxHeartbeats 1000000 in
theorem zf6 (z : Int) (a1 a2 a3 : Option Addr) (n1 c1 n2 c2 n3 c3 kb ko kc : Nat) (l1 l2 l3 : List UInt8) (w : World) (hG : GT w) (hT : Tab w No) (hR : RTab w No kb ko kc) (hS : ST w) (h1 : (⟨a1, n1, c1, l1⟩ : Bs).ok w) (h2 : (⟨a2, n2, c2, l2⟩ : Bs).ok w) (h3 : (⟨a3, n3, c3, l3⟩ : Bs).ok w) :
    Sy.Fn Tryz.prog 4 [.int .i64 z, .slice a1 n1 c1, .slice a2 n2 c2, .slice a3 n3 c3] w No (Gives (.bool true)) := by
  refine zq Tryz.func4 rfl Tryz.ntmps4 (by simp) Holds.nil ?_
  have hkn := fun w' (hk : Keep No w w') => zed w' (hG.to hk) (hT.no hk) (hS.to hk)
  by_cases b1 : 200 < n1
  · repeat' (first | refine zg ?_ | refine zf ?_ | refine zu rfl ?_ | refine zo ?_ | refine ze ?_ | refine zj ?_ | refine zx ?_ | (refine za (id := 0) ?_; refine zd ?_) | (refine za (id := 1) ?_; refine zb ?_; refine zB ?_; refine z6 ?_; refine zb ?_; refine zp rfl rfl rfl ?_; refine zp rfl rfl rfl ?_; refine zp rfl rfl rfl ?_; refine zz ?_; refine zb ?_; refine zp rfl rfl rfl ?_; refine zp rfl rfl rfl ?_; refine zp rfl rfl rfl ?_; refine zz ?_) | (refine za (id := 2) ?_; refine yv (zi (f := 9) (hc := fun w' _ hk _ => hkn w' hk)) (k := ?_); refine zd ?_) | fail)
    exact ret1 rfl (resTmp rfl) SubR.nil ⟨rfl, rfl⟩
  by_cases b2 : 200 < n2
  · repeat' (first | refine zg ?_ | refine zf ?_ | refine zu rfl ?_ | refine zo ?_ | refine ze ?_ | refine zj ?_ | refine zx ?_ | (refine za (id := 0) ?_; refine zd ?_) | (refine za (id := 1) ?_; refine zb ?_; refine zB ?_; refine z6 ?_; refine zb ?_; refine zb ?_; refine zB ?_; refine z6 ?_; refine zz ?_; refine zb ?_; refine zp rfl rfl rfl ?_; refine zp rfl rfl rfl ?_; refine zp rfl rfl rfl ?_; refine zz ?_) | (refine za (id := 2) ?_; refine yv (zi (f := 9) (hc := fun w' _ hk _ => hkn w' hk)) (k := ?_); refine zd ?_) | fail)
    exact ret1 rfl (resTmp rfl) SubR.nil ⟨rfl, rfl⟩
  by_cases b3 : 200 < n3
  · repeat' (first | refine zg ?_ | refine zf ?_ | refine zu rfl ?_ | refine zo ?_ | refine ze ?_ | refine zj ?_ | refine zx ?_ | (refine za (id := 0) ?_; refine zd ?_) | (refine za (id := 1) ?_; refine zb ?_; refine zB ?_; refine z6 ?_; refine zb ?_; refine zb ?_; refine zB ?_; refine z6 ?_; refine zz ?_; refine zb ?_; refine zb ?_; refine zB ?_; refine z6 ?_; refine zz ?_) | (refine za (id := 2) ?_; refine yv (zi (f := 9) (hc := fun w' _ hk _ => hkn w' hk)) (k := ?_); refine zd ?_) | fail)
    exact ret1 rfl (resTmp rfl) SubR.nil ⟨rfl, rfl⟩
  have nm := fun e w' => zea e w'
  have hA := fun w' (hk : Keep No w w') => ze6 z a1 a2 a3 n1 c1 n2 c2 n3 c3 l1 l2 l3 w' (hG.to hk) (hT.no hk) (hS.to hk) (h1.keep hk) (h2.keep hk) (h3.keep hk) (by omega) (by omega) (by omega)
  have hB := fun w' (hk : Keep No w w') => zjP z a1 a2 a3 n1 c1 n2 c2 n3 c3 kb ko kc l1 l2 l3 w' (hR.no hk) (h1.keep hk) (h2.keep hk) (h3.keep hk) (by omega) (by omega) (by omega)
  generalize sVer z l1 l2 l3 = e at *
  repeat' (first | refine zg ?_ | refine zf ?_ | refine zw rfl ?_ | refine zt ?_ | refine zo ?_ | refine ze ?_ | refine zj ?_ | (refine za (id := 0) ?_; refine zd ?_) | (refine za (id := 1) ?_; refine zb ?_; refine zB ?_; refine z6 ?_; refine zb ?_; refine zb ?_; refine zB ?_; refine z6 ?_; refine zz ?_; refine zb ?_; refine zb ?_; refine zB ?_; refine z6 ?_; refine zz ?_) | (refine za (id := 3) ?_; refine zb ?_; refine zb ?_; refine zb ?_; refine zb ?_; refine yv (zi (f := 13) (hc := fun w' _ hk _ => hA w' hk)) (k := ?_); refine yv (zi (hc := fun _ _ _ _ => (nm _ _))) (k := ?_); refine zb ?_; refine zb ?_; refine zb ?_; refine zb ?_; refine yv (zi (f := 14) (hc := fun w' _ hk _ => hB w' hk)) (k := ?_); refine yv (z3 (hr := decide_eq_true rfl)) (k := ?_); refine zb ?_; refine yv (zi (f := 9) (hc := fun w' _ hk _ => hkn w' hk)) (k := ?_); refine zz ?_; refine zd ?_) | fail)
  exact ret1 rfl (resTmp rfl) SubR.nil ⟨rfl, rfl⟩
set_option maxHeartbeats 1000000 in
theorem ziR (z : Int) (a1 a2 a3 : Option Addr) (n1 c1 n2 c2 n3 c3 : Nat) (l1 l2 l3 : List UInt8) (w : World) (hG : GT w) (hT : Tab w No) (hS : ST w) (h1 : (⟨a1, n1, c1, l1⟩ : Bs).ok w) (h2 : (⟨a2, n2, c2, l2⟩ : Bs).ok w) (h3 : (⟨a3, n3, c3, l3⟩ : Bs).ok w) :
    Sy.Fn Tryz.prog 7 [.int .i64 z, .slice a1 n1 c1, .slice a2 n2 c2, .slice a3 n3 c3] w No (Gives (.bool true)) := by
  refine zq Tryz.func7 rfl Tryz.ntmps7 (by simp) Holds.nil ?_
  have hkn := fun w' (hk : Keep No w w') => zed w' (hG.to hk) (hT.no hk) (hS.to hk)
  by_cases b1 : 200 < n1
  · repeat' (first | refine zg ?_ | refine zf ?_ | refine zu rfl ?_ | refine zo ?_ | refine ze ?_ | refine zj ?_ | refine zx ?_ | (refine za (id := 0) ?_; refine zd ?_) | (refine za (id := 1) ?_; refine zb ?_; refine zB ?_; refine z6 ?_; refine zb ?_; refine zp rfl rfl rfl ?_; refine zp rfl rfl rfl ?_; refine zp rfl rfl rfl ?_; refine zz ?_; refine zb ?_; refine zp rfl rfl rfl ?_; refine zp rfl rfl rfl ?_; refine zp rfl rfl rfl ?_; refine zz ?_) | (refine za (id := 2) ?_; refine yv (zi (f := 9) (hc := fun w' _ hk _ => hkn w' hk)) (k := ?_); refine zd ?_) | fail)
    exact ret1 rfl (resTmp rfl) SubR.nil ⟨rfl, rfl⟩
  by_cases b2 : 200 < n2
  · repeat' (first | refine zg ?_ | refine zf ?_ | refine zu rfl ?_ | refine zo ?_ | refine ze ?_ | refine zj ?_ | refine zx ?_ | (refine za (id := 0) ?_; refine zd ?_) | (refine za (id := 1) ?_; refine zb ?_; refine zB ?_; refine z6 ?_; refine zb ?_; refine zb ?_; refine zB ?_; refine z6 ?_; refine zz ?_; refine zb ?_; refine zp rfl rfl rfl ?_; refine zp rfl rfl rfl ?_; refine zp rfl rfl rfl ?_; refine zz ?_) | (refine za (id := 2) ?_; refine yv (zi (f := 9) (hc := fun w' _ hk _ => hkn w' hk)) (k := ?_); refine zd ?_) | fail)
    exact ret1 rfl (resTmp rfl) SubR.nil ⟨rfl, rfl⟩
  by_cases b3 : 200 < n3
  · repeat' (first | refine zg ?_ | refine zf ?_ | refine zu rfl ?_ | refine zo ?_ | refine ze ?_ | refine zj ?_ | refine zx ?_ | (refine za (id := 0) ?_; refine zd ?_) | (refine za (id := 1) ?_; refine zb ?_; refine zB ?_; refine z6 ?_; refine zb ?_; refine zb ?_; refine zB ?_; refine z6 ?_; refine zz ?_; refine zb ?_; refine zb ?_; refine zB ?_; refine z6 ?_; refine zz ?_) | (refine za (id := 2) ?_; refine yv (zi (f := 9) (hc := fun w' _ hk _ => hkn w' hk)) (k := ?_); refine zd ?_) | fail)
    exact ret1 rfl (resTmp rfl) SubR.nil ⟨rfl, rfl⟩
  have nm := fun e w' => zea e w'
  have hA := fun w' (hk : Keep No w w') => (zgM z a1 n1 c1 l1 w' (hG.to hk) h1.len h1.cap (by omega) (h1.keep hk).sla).mono (zcc rfl rfl rfl)
  have hB := fun w' (hk : Keep No w w') => (zl1 z a1 n1 c1 l1 w' h1.len (by omega) (h1.keep hk).sla).mono (zcc rfl rfl rfl)
  have hC := fun w' (hk : Keep No w w') => (zgo z a2 n2 c2 l2 w' (hG.to hk) h2.len h2.cap (h2.keep hk).sla).mono (zcc rfl rfl rfl)
  have hD := fun w' (hk : Keep No w w') => (zmX z a2 n2 c2 l2 w' h2.len (h2.keep hk).sla).mono (zcc rfl rfl rfl)
  have hE := fun w' (hk : Keep No w w') => zlN z a3 n3 c3 l3 w' (hG.to hk) h3.len h3.cap (h3.keep hk).sla
  have hF := fun w' (hk : Keep No w w') => zkX z a3 n3 c3 l3 w' h3.len (h3.keep hk).sla
  have hL := fun w' (hk : Keep No w w') => zft z w' (hG.to hk)
  have hM := fun w' => zkL z w'
  unfold BRx at hA hB hC hD
  obtain ⟨l, hl⟩ : ∃ l, l = (sPriv z l1).getD [] := ⟨_, rfl⟩
  obtain ⟨n, hn⟩ : ∃ n, n = l.length := ⟨_, rfl⟩
  obtain ⟨m, hm⟩ : ∃ l, l = (sPub z l2).getD [] := ⟨_, rfl⟩
  obtain ⟨k, hk⟩ : ∃ n, n = m.length := ⟨_, rfl⟩
  rw [← hl, ← hn] at hA hB
  rw [← hm, ← hk] at hC hD
  generalize (if (sPriv z l1).isSome then (0 : Int) else 2) = e at *
  generalize (if (sPub z l2).isSome then (0 : Int) else 2) = f at *
  generalize decide ((gel z l3).2 = 0) = b at *
  generalize ((2 * glen z : Nat) : Int) = len at *
  have hnl : l.length = n := hn.symm
  have hkl : m.length = k := hk.symm
  repeat' (first | refine zg ?_ | refine zf ?_ | refine zw rfl ?_ | refine zt ?_ | refine zo ?_ | refine ze ?_ | refine zj ?_ | (refine za (id := 0) ?_; refine zd ?_) | (refine za (id := 1) ?_; refine zb ?_; refine zB ?_; refine z6 ?_; refine zb ?_; refine zb ?_; refine zB ?_; refine z6 ?_; refine zz ?_; refine zb ?_; refine zb ?_; refine zB ?_; refine z6 ?_; refine zz ?_) | (refine za (id := 3) ?_; refine zb ?_; refine zb ?_; (refine ys (zy (f := 18) (hc := fun w' X hk hh => hA w' hk)) (k := ?_); rintro _ _ ⟨R, rfl, aA, cA, rfl, rfl⟩); refine zb ?_; refine zk ?_; refine zk ?_; refine zd ?_; refine zd ?_) | (refine za (id := 4) ?_; refine zb ?_; refine zb ?_; (refine ys (zy (f := 19) (hc := fun w' X hk hh => hB w' hk)) (k := ?_); rintro _ _ ⟨R, rfl, aB, cB, rfl, rfl⟩); refine zb ?_; refine zk ?_; refine zk ?_; refine zd ?_; refine zd ?_) | (refine za (id := 5) ?_; refine zb ?_; refine zb ?_; (refine ys (zy (f := 20) (hc := fun w' X hk hh => hC w' hk)) (k := ?_); rintro _ _ ⟨R, rfl, aC, cC, rfl, rfl⟩); refine zb ?_; refine zk ?_; refine zk ?_; refine zd ?_; refine zd ?_) | (refine za (id := 6) ?_; refine zb ?_; refine zb ?_; (refine ys (zy (f := 21) (hc := fun w' X hk hh => hD w' hk)) (k := ?_); rintro _ _ ⟨R, rfl, aD, cD, rfl, rfl⟩); refine zb ?_; refine zk ?_; refine zk ?_; refine zd ?_; refine zd ?_) | (refine za (id := 7) ?_; refine zb ?_; refine yv (zbu (l := l) (hr := Rd.row Has.go) (hn := hnl)) (k := ?_); refine zb ?_; refine yv (zbu (l := l) (hr := Rd.row Has.go) (hn := hnl)) (k := ?_); refine yv (zbr (a := l) (b := l) (hr := decide_eq_true rfl)) (k := ?_); refine zb ?_; refine zb ?_; refine yv (zi (hc := fun _ _ _ _ => (nm _ _))) (k := ?_); refine zb ?_; refine yv (z3 (hr := decide_eq_true rfl)) (k := ?_); refine zz ?_; refine zb ?_; refine zb ?_; refine yv (zbu (l := m) (hr := Rd.row Has.go) (hn := hkl)) (k := ?_); refine zb ?_; refine yv (zbu (l := m) (hr := Rd.row Has.go) (hn := hkl)) (k := ?_); refine yv (zbr (a := m) (b := m) (hr := decide_eq_true rfl)) (k := ?_); refine zz ?_; refine zb ?_; refine zb ?_; refine yv (zi (hc := fun _ _ _ _ => (nm _ _))) (k := ?_); refine zb ?_; refine yv (z3 (hr := decide_eq_true rfl)) (k := ?_); refine zz ?_; refine zb ?_; refine zb ?_; refine zb ?_; refine yv (zi (f := 22) (hc := fun w' _ hk _ => hE w' hk)) (k := ?_); refine zb ?_; refine zb ?_; refine yv (zi (f := 23) (hc := fun w' _ hk _ => hF w' hk)) (k := ?_); refine yv (ziF (hr := beq_self_eq_true b)) (k := ?_); refine zz ?_; refine zb ?_; refine zb ?_; refine yv (zi (f := 24) (hc := fun w' _ hk _ => hL w' hk)) (k := ?_); refine zb ?_; refine yv (zi (hc := fun _ _ _ _ => (hM _))) (k := ?_); refine yv (z3 (hr := decide_eq_true rfl)) (k := ?_); refine zz ?_; refine zb ?_; refine yv (zi (f := 9) (hc := fun w' _ hk _ => hkn w' hk)) (k := ?_); refine zz ?_; refine zd ?_) | fail)
  exact ret1 rfl (resTmp rfl) SubR.nil ⟨rfl, rfl⟩
end Go.Proofs.YtjidkoabdmjgkaaGreatDoor
end
