/- Plain laws of numbers modulo a number: congruence, Euclid's algorithm, powers, Fermat's little theorem. -/
import Derived.Test.YtjidkoabdmjgkaaGreatDoorXJ06
import Derived.Test.YtjidkoabdmjgkaaGreatDoorXJ04
set_option linter.all false
section
namespace Go.Nt
def Cg (m a b : Nat) : Prop := ∃ k : Int, (a : Int) - b = m * k
theorem zhJ (m a b : Nat) : Cg m a b ↔ a % m = b % m := by
  constructor
  · rintro ⟨k, h⟩
    have h1 : (a : Int) % m = (b : Int) % m := by
      rw [show (a : Int) = b + m * k by omega, Int.add_mul_emod_self_left]
    have h2 : ((a % m : Nat) : Int) = ((b % m : Nat) : Int) := by rw [Int.natCast_emod, Int.natCast_emod, h1]
    exact Int.ofNat.inj h2
  · intro h
    have h1 := Nat.div_add_mod a m
    have h2 := Nat.div_add_mod b m
    refine ⟨((a / m : Nat) : Int) - ((b / m : Nat) : Int), ?_⟩
    rw [Int.mul_sub, ← Int.natCast_mul, ← Int.natCast_mul]
    omega
theorem zb1 (m a : Nat) : Cg m (a % m) a := (zhJ _ _ _).2 (Nat.mod_mod _ _)
theorem Cg.refl (m a : Nat) : Cg m a a := ⟨0, by omega⟩
theorem Cg.symm {m a b : Nat} : Cg m a b → Cg m b a := fun ⟨k, h⟩ => ⟨-k, by rw [Int.mul_neg]; omega⟩
theorem Cg.trans {m a b c : Nat} : Cg m a b → Cg m b c → Cg m a c := fun ⟨k, h⟩ ⟨l, h'⟩ => ⟨k + l, by rw [Int.mul_add]; omega⟩
theorem Cg.add {m a b c d : Nat} : Cg m a b → Cg m c d → Cg m (a + c) (b + d) := fun ⟨k, h⟩ ⟨l, h'⟩ => ⟨k + l, by rw [Int.mul_add]; omega⟩
theorem Cg.mul {m a b c d : Nat} : Cg m a b → Cg m c d → Cg m (a * c) (b * d) := fun ⟨k, h⟩ ⟨l, h'⟩ => ⟨k * c + b * l, by rw [Int.natCast_mul, Int.natCast_mul]; grind⟩
theorem Cg.pow {m a b : Nat} (h : Cg m a b) : ∀ n : Nat, Cg m (a ^ n) (b ^ n)
  | 0 => by rw [Nat.pow_zero, Nat.pow_zero]; exact Cg.refl _ _
  | n + 1 => by rw [Nat.pow_succ, Nat.pow_succ]; exact (Cg.pow h n).mul h
theorem Cg.mod {m a b : Nat} (h : Cg m a b) : a % m = b % m := (zhJ _ _ _).1 h
def dm (m a b : Nat) : Nat := (a + (m - b % m)) % m
theorem zlN {m : Nat} (a b : Nat) (h : 0 < m) : dm m a b < m := Nat.mod_lt _ h
theorem zir {m : Nat} (a b : Nat) (h : 0 < m) : Cg m (dm m a b + b) a := by
  refine ((zb1 m _).add (Cg.refl m b)).trans ?_
  have h1 := Nat.mod_lt b h
  have h2 := Nat.div_add_mod b m
  refine ⟨1 + ((b / m : Nat) : Int), ?_⟩
  rw [Int.mul_add, ← Int.natCast_mul]
  omega
theorem znk {m a b c : Nat} (h : 0 < m) (hc : c < m) (e : Cg m (c + b) a) : dm m a b = c := by
  have h1 := (zir a b h).trans e.symm
  obtain ⟨k, hk⟩ := h1
  have h3 : Cg m (dm m a b) c := ⟨k, by omega⟩
  have h4 := h3.mod
  rwa [Nat.mod_eq_of_lt (zlN a b h), Nat.mod_eq_of_lt hc] at h4
theorem znh {m a b c d : Nat} (h : 0 < m) (e1 : Cg m a c) (e2 : Cg m b d) : dm m a b = dm m c d :=
  znk h (zlN _ _ h) ((Cg.add (Cg.refl _ _) e2).trans ((zir c d h).trans e1.symm))
end Go.Nt
end
section
namespace Go.Nt
def pmod (m : Nat) : Nat → Nat → Nat → Nat
  | 0, _, _ => 1 % m
  | n + 1, b, e => bif Nat.beq (e % 2) 1 then b * pmod m n (b * b % m) (e / 2) % m else pmod m n (b * b % m) (e / 2)
theorem ziU (m : Nat) : ∀ n b e, e < 2 ^ n → pmod m n b e = b ^ e % m
  | 0, b, e, h => by
    rw [Nat.pow_zero] at h
    obtain rfl : e = 0 := by omega
    rfl
  | n + 1, b, e, h => by
    rw [Nat.pow_succ] at h
    have ih := ziU m n (b * b % m) (e / 2) (by omega)
    have h1 : (b * b % m) ^ (e / 2) % m = (b * b) ^ (e / 2) % m := ((zb1 m (b * b)).pow _).mod
    rw [h1, ← Nat.pow_two, ← Nat.pow_mul] at ih
    rw [pmod, ← Nat.pow_two, ih]
    rcases (show e % 2 = 0 ∨ e % 2 = 1 by omega) with h2 | h2
    · rw [h2, show Nat.beq 0 1 = false from rfl, cond_false, show 2 * (e / 2) = e by omega]
    · rw [h2, show Nat.beq 1 1 = true from rfl, cond_true, Nat.mul_mod_mod]
      conv => rhs; rw [show e = 2 * (e / 2) + 1 by omega, Nat.pow_succ, Nat.mul_comm]
def gP : Nat → Nat
  | 1 => 2879
  | 2 => 71850239
  | 3 => 2444789759
  | _ => 1552518092300708935130918131258481755631334049434514313202351194902966239949102107258669453876591642442910007680288864229150803718918046342632727613031282983744380820890196288509170691316593175367469551763119843371637221007210577919
def gQ (i : Nat) : Nat := gP i / 2
def gL : Nat → Nat
  | 1 => 2
  | 2 => 4
  | 3 => 4
  | _ => 96
theorem za7 {p : Nat → Prop} (h1 : p 1) (h2 : p 2) (h3 : p 3) (h4 : p 4) (i : Nat) (h0 : 1 ≤ i) (h5 : i ≤ 4) : p i := by
  rcases (show i = 1 ∨ i = 2 ∨ i = 3 ∨ i = 4 by omega) with rfl | rfl | rfl | rfl
  · exact h1
  · exact h2
  · exact h3
  · exact h4
def gE : Nat → Nat
  | 0 => 0
  | _ => 768
theorem znt : pmod (gP 1) (gE 1) 4 (gQ 1) = 1 := by decide +kernel
theorem znu : pmod (gP 2) (gE 2) 4 (gQ 2) = 1 := by decide +kernel
theorem znq : pmod (gP 3) (gE 3) 4 (gQ 3) = 1 := by decide +kernel
theorem znx : pmod (gP 4) (gE 4) 4 (gQ 4) = 1 := by decide +kernel
theorem znf (i : Nat) (h0 : 1 ≤ i) (h5 : i ≤ 4) : gQ i < 2 ^ gE i := za7 (p := fun i => gQ i < 2 ^ gE i) (by decide +kernel) (by decide +kernel) (by decide +kernel) (by decide +kernel) i h0 h5
theorem zfK (i : Nat) (h0 : 1 ≤ i) (h5 : i ≤ 4) : nd 256 (gP i) = gL i :=
  zbi _ _ _ (by decide) (za7 (p := fun i => gP i < 256 ^ gL i) (by decide +kernel) (by decide +kernel) (by decide +kernel) (by decide +kernel) i h0 h5)
    fun _ => za7 (p := fun i => 256 ^ (gL i - 1) ≤ gP i) (by decide +kernel) (by decide +kernel) (by decide +kernel) (by decide +kernel) i h0 h5
theorem zkn (i : Nat) (h0 : 1 ≤ i) (h5 : i ≤ 4) : gP i = 2 * gQ i + 1 := za7 (p := fun i => gP i = 2 * gQ i + 1) (by decide +kernel) (by decide +kernel) (by decide +kernel) (by decide +kernel) i h0 h5
theorem zak (i : Nat) (h0 : 1 ≤ i) (h5 : i ≤ 4) : 1439 ≤ gQ i := za7 (p := fun i => 1439 ≤ gQ i) (by decide +kernel) (by decide +kernel) (by decide +kernel) (by decide +kernel) i h0 h5
theorem g4 (i : Nat) (h0 : 1 ≤ i) (h5 : i ≤ 4) : 4 ^ gQ i % gP i = 1 := by
  rw [← ziU (gP i) (gE i) 4 (gQ i) (znf i h0 h5)]
  exact za7 (p := fun i => pmod (gP i) (gE i) 4 (gQ i) = 1) znt znu znq znx i h0 h5
theorem zf5 {m b q e : Nat} (h : Cg m (b ^ q) 1) : Cg m (b ^ (e % q)) (b ^ e) := by
  conv => rhs; rw [← Nat.div_add_mod e q, Nat.pow_add, Nat.pow_mul]
  have h1 := (h.pow (e / q)).mul (Cg.refl m (b ^ (e % q)))
  rw [Nat.one_pow, Nat.one_mul] at h1
  exact h1.symm
def mem (i x : Nat) : Prop := 0 < x ∧ x < gP i ∧ x ^ gQ i % gP i = 1
theorem zap (i : Nat) (h0 : 1 ≤ i) (h5 : i ≤ 4) : 1 < gP i := by
  have := zkn i h0 h5
  have := zak i h0 h5
  omega
theorem zee {i x : Nat} (h0 : 1 ≤ i) (h5 : i ≤ 4) (h : x ^ gQ i % gP i = 1) : Cg (gP i) (x ^ gQ i) 1 :=
  (zhJ _ _ _).2 (by rw [h, Nat.mod_eq_of_lt (zap i h0 h5)])
theorem zhq {i x : Nat} (h0 : 1 ≤ i) (h5 : i ≤ 4) (h : Cg (gP i) (x ^ gQ i) 1) : mem i (x % gP i) := by
  have h1 := zap i h0 h5
  have h2 := zak i h0 h5
  have h3 : (x % gP i) ^ gQ i % gP i = 1 := by
    rw [((zb1 (gP i) x).pow (gQ i)).mod, h.mod, Nat.mod_eq_of_lt h1]
  refine ⟨?_, Nat.mod_lt _ (by omega), h3⟩
  rcases Nat.eq_zero_or_pos (x % gP i) with h4 | h4
  · rw [h4, Nat.zero_pow (by omega), Nat.zero_mod] at h3; omega
  · exact h4
theorem zdw {i : Nat} (h0 : 1 ≤ i) (h5 : i ≤ 4) (e : Nat) : mem i (4 ^ e % gP i) := by
  refine zhq h0 h5 ?_
  have h := (zee h0 h5 (g4 i h0 h5)).pow e
  rw [Nat.one_pow, ← Nat.pow_mul, Nat.mul_comm, Nat.pow_mul] at h
  exact h
end Go.Nt
end
section
namespace Go.Sy
open Go Go.Wd
section
variable {P : Program} {ro : Option Nat} {N : Nat} {w0 : World} {M : Nat → Prop} {ds : List Deferred} {g : Nat → Option Value} {L : List Res} {o : Oper}
end
end Go.Sy
end
section
namespace Go.Sy
open Go
inductive FillTo (pl : Nat → Option (Nat × Nat)) : List (Nat × Value) → List Value → List Value → Prop
  | nil {C : List Value} : FillTo pl [] C C
  | cons {i off n : Nat} {v : Value} {cs C C' : List Value} {rest : List (Nat × Value)} (hv : v.cells = cs.toArray) (hp : pl i = some (off, n)) (hl : cs.length = n) (hb : off + n ≤ C.length) (h : FillTo pl rest (setSeg C off cs) C') : FillTo pl ((i, v) :: rest) C C'
theorem zf6 {pl : Nat → Option (Nat × Nat)} {l : List (Nat × Value)} {C C' : List Value} (h : FillTo pl l C C') : Instr.fill pl C.toArray l = some C'.toArray := by
  induction h with
  | nil => simp [Instr.fill]
  | @cons i off n v cs C C' rest hv hp hl hb h ih =>
    simp only [Instr.fill, hp, hv]
    rw [if_neg (by simp; omega)]
    have e := zgG cs (C.take off) (C.drop off) off 0 (by simp; omega) (by simp; omega)
    rw [List.take_append_drop, List.drop_drop] at e
    have e2 : (cs.toArray.zipIdx.foldl (fun (a : Array Value) (p : Value × Nat) => a.setIfInBounds (off + p.2) p.1) C.toArray) = (setSeg C off cs).toArray := by
      unfold setSeg; rw [← e]; simp
    have e3 : (cs.toArray.zipIdx.foldl (fun (a : Array Value) (x : Value × Nat) => match x with | (c, j) => a.setIfInBounds (off + j) c) C.toArray) = (setSeg C off cs).toArray := e2
    rw [e3]; exact ih
section
variable {P : Program} {ro : Option Nat} {N : Nat} {w0 : World} {M : Nat → Prop} {ds : List Deferred} {o : Oper} {g : Nat → Option Value} {L : List Res} {t : TypeId} {y : Ty}
theorem zef {parts : Array (Nat × Operand)} {vs Z C : List Value} (hf : FillTo (nth y.flds) (List.zip (parts.toList.map (·.1)) vs) Z C) (ho : o.op = .build t parts := by exact rfl) (hv : evs g (parts.toList.map (·.2)) = some vs := by exact rfl) (ht : tyOf P t = some y := by exact ty rfl) (hy : y.desc = .struct #[] := by exact rfl)
    (hn : y.flds.all (fun p => !Nat.beq p.2 0) = true := by exact rfl) (hz : zeroC P t = some Z := by exact zc rfl) : OpT P ro N w0 M ds o g L (Det (.agg C.toArray) L) := by
  refine zfl ho hv ?_
  obtain ⟨d, i, hd, hi, hs, _, _, hfl⟩ := zO ht
  rw [hy] at hs
  obtain ⟨fs, rfl⟩ := zdu hs
  simp only at hfl
  unfold zeroC at hz
  rw [hi] at hz
  simp only [Option.bind_some, Option.map_eq_some_iff] at hz
  obtain ⟨zv, hzv, hze⟩ := hz
  rw [hfl] at hn
  simp only [Program.built, hi, hd, hzv, zds _ hn]
  have := zf6 hf
  rw [show zv.cells = Z.toArray by rw [← hze]]
  rw [show (fun x => (List.map (fun f => (f.offset, P.cellsOf f.type)) fs.toList).toArray[x]?) = nth y.flds by funext x; rw [zez, hfl]; simp]
  rw [this]
end
end Go.Sy
end
