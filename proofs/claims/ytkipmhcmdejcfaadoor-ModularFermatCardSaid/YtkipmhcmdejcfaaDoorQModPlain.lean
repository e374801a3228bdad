/- Plain laws of numbers modulo a number: congruence, Euclid's algorithm, powers, Fermat's little theorem. -/
import Derived.Test.YtkipmhcmdejcfaaDoorQNatPlain
set_option linter.all false
namespace Go.Nt
def Cg (m a b : Nat) : Prop := ∃ k : Int, (a : Int) - b = m * k
theorem cg_iff (m a b : Nat) : Cg m a b ↔ a % m = b % m := by
  constructor
  · rintro ⟨k, h⟩
    have h1 : (a : Int) % m = (b : Int) % m := by
      rw [show (a : Int) = b + m * k by omega, Int.add_mul_emod_self_left]
    have h2 : ((a % m : Nat) : Int) = ((b % m : Nat) : Int) := by rw [Int.natCast_emod, Int.natCast_emod, h1]
    exact Int.ofNat.inj h2
  · intro h
    have h1 := Nat.div_add_mod a m
    have h2 := Nat.div_add_mod b m
    refine ⟨((a / m : Nat) : Int) - ((b / m : Nat) : Int), ?_⟩
    rw [Int.mul_sub, ← Int.natCast_mul, ← Int.natCast_mul]
    omega
theorem cg_mod (m a : Nat) : Cg m (a % m) a := (cg_iff _ _ _).2 (Nat.mod_mod _ _)
theorem Cg.refl (m a : Nat) : Cg m a a := ⟨0, by omega⟩
theorem Cg.symm {m a b : Nat} : Cg m a b → Cg m b a := fun ⟨k, h⟩ => ⟨-k, by rw [Int.mul_neg]; omega⟩
theorem Cg.trans {m a b c : Nat} : Cg m a b → Cg m b c → Cg m a c := fun ⟨k, h⟩ ⟨l, h'⟩ => ⟨k + l, by rw [Int.mul_add]; omega⟩
theorem Cg.add {m a b c d : Nat} : Cg m a b → Cg m c d → Cg m (a + c) (b + d) := fun ⟨k, h⟩ ⟨l, h'⟩ => ⟨k + l, by rw [Int.mul_add]; omega⟩
theorem Cg.mul {m a b c d : Nat} : Cg m a b → Cg m c d → Cg m (a * c) (b * d) := fun ⟨k, h⟩ ⟨l, h'⟩ => ⟨k * c + b * l, by rw [Int.natCast_mul, Int.natCast_mul]; grind⟩
theorem Cg.pow {m a b : Nat} (h : Cg m a b) : ∀ n : Nat, Cg m (a ^ n) (b ^ n)
  | 0 => by rw [Nat.pow_zero, Nat.pow_zero]; exact Cg.refl _ _
  | n + 1 => by rw [Nat.pow_succ, Nat.pow_succ]; exact (Cg.pow h n).mul h
theorem Cg.mod {m a b : Nat} (h : Cg m a b) : a % m = b % m := (cg_iff _ _ _).1 h
def dm (m a b : Nat) : Nat := (a + (m - b % m)) % m
theorem dm_lt {m : Nat} (a b : Nat) (h : 0 < m) : dm m a b < m := Nat.mod_lt _ h
theorem dm_back {m : Nat} (a b : Nat) (h : 0 < m) : Cg m (dm m a b + b) a := by
  refine ((cg_mod m _).add (Cg.refl m b)).trans ?_
  have h1 := Nat.mod_lt b h
  have h2 := Nat.div_add_mod b m
  refine ⟨1 + ((b / m : Nat) : Int), ?_⟩
  rw [Int.mul_add, ← Int.natCast_mul]
  omega
theorem dm_of {m a b c : Nat} (h : 0 < m) (hc : c < m) (e : Cg m (c + b) a) : dm m a b = c := by
  have h1 := (dm_back a b h).trans e.symm
  obtain ⟨k, hk⟩ := h1
  have h3 : Cg m (dm m a b) c := ⟨k, by omega⟩
  have h4 := h3.mod
  rwa [Nat.mod_eq_of_lt (dm_lt a b h), Nat.mod_eq_of_lt hc] at h4
theorem dm_cg {m a b c d : Nat} (h : 0 < m) (e1 : Cg m a c) (e2 : Cg m b d) : dm m a b = dm m c d :=
  dm_of h (dm_lt _ _ h) ((Cg.add (Cg.refl _ _) e2).trans ((dm_back c d h).trans e1.symm))
def euc (m r s x y : Nat) : Nat × Nat := if h : s = 0 then (r, x) else euc m s (r % s) y (dm m x (r / s * y % m))
termination_by s
decreasing_by exact Nat.mod_lt _ (Nat.pos_of_ne_zero h)
theorem euc_zero (m r x y : Nat) : euc m r 0 x y = (r, x) := by rw [euc]; simp
theorem euc_pos (m r s x y : Nat) (h : 0 < s) : euc m r s x y = euc m s (r % s) y (dm m x (r / s * y % m)) := by
  conv => lhs; rw [euc]
  rw [dif_neg (by omega)]
theorem euc_step {m r s x y a : Nat} (hm : 0 < m) (h1 : Cg m (x * a) r) (h2 : Cg m (y * a) s) : Cg m (dm m x (r / s * y % m) * a) (r % s) := by
  have h3 := dm_back x (r / s * y % m) hm
  generalize dm m x (r / s * y % m) = z at *
  have h4 : Cg m (z + r / s * y) x := ((Cg.refl m z).add (cg_mod m _).symm).trans h3
  have h5 := Nat.div_add_mod r s
  generalize r / s = q at *
  generalize r % s = t at *
  obtain ⟨k1, e1⟩ := h1
  obtain ⟨k2, e2⟩ := h2
  obtain ⟨k4, e4⟩ := h4
  refine ⟨k4 * a + k1 - q * k2, ?_⟩
  have h5 : (r : Int) = s * q + t := by rw [← h5, Int.natCast_add, Int.natCast_mul]
  simp only [Int.natCast_add, Int.natCast_mul] at *
  grind
theorem euc_ok (m a : Nat) (hm : 0 < m) : ∀ s r x y, Cg m (x * a) r → Cg m (y * a) s → (euc m r s x y).1 = Nat.gcd r s ∧ Cg m ((euc m r s x y).2 * a) (euc m r s x y).1 := by
  intro s
  induction s using Nat.strongRecOn with
  | _ s ih =>
    intro r x y h1 h2
    rcases Nat.eq_zero_or_pos s with h0 | h0
    · subst h0
      rw [euc_zero, Nat.gcd_zero_right]
      exact ⟨rfl, h1⟩
    · rw [euc_pos m r s x y h0]
      have h := ih (r % s) (Nat.mod_lt _ h0) s y (dm m x (r / s * y % m)) h2 (euc_step hm h1 h2)
      refine ⟨?_, h.2⟩
      rw [h.1, Nat.gcd_comm r s, Nat.gcd_rec s r, Nat.gcd_comm]
theorem euc_bound (m : Nat) (hm : 0 < m) : ∀ s r x y, x < m → y < m → (euc m r s x y).2 < m := by
  intro s
  induction s using Nat.strongRecOn with
  | _ s ih =>
    intro r x y h1 h2
    rcases Nat.eq_zero_or_pos s with h0 | h0
    · subst h0; rw [euc_zero]; exact h1
    · rw [euc_pos m r s x y h0]
      exact ih (r % s) (Nat.mod_lt _ h0) s y _ h2 (dm_lt _ _ hm)
def inv (m a : Nat) : Nat × Nat := euc m m (a % m) 0 (1 % m)
theorem inv_ok (m a : Nat) (hm : 0 < m) : (inv m a).1 = Nat.gcd a m ∧ Cg m ((inv m a).2 * a) (inv m a).1 := by
  have h := euc_ok m a hm (a % m) m 0 (1 % m) (by rw [Nat.zero_mul]; exact ⟨-1, by omega⟩) (by
    refine ((cg_mod m 1).mul (Cg.refl m a)).trans ?_
    rw [Nat.one_mul]; exact (cg_mod m a).symm)
  refine ⟨?_, h.2⟩
  show (euc m m (a % m) 0 (1 % m)).1 = _
  rw [h.1, Nat.gcd_comm m (a % m), ← Nat.gcd_rec m a, Nat.gcd_comm]
theorem inv_lt (m a : Nat) (hm : 0 < m) : (inv m a).2 < m := euc_bound m hm _ _ _ _ hm (Nat.mod_lt _ hm)
def ch : Nat → Nat → Nat
  | _, 0 => 1
  | 0, _ + 1 => 0
  | n + 1, k + 1 => ch n k + ch n (k + 1)
theorem ch_over : ∀ n k, n < k → ch n k = 0
  | 0, k + 1, _ => by rw [ch]
  | n + 1, k + 1, h => by rw [ch, ch_over n k (by omega), ch_over n (k + 1) (by omega)]
theorem ch_self : ∀ n, ch n n = 1
  | 0 => by rw [ch]
  | n + 1 => by rw [ch, ch_self n, ch_over n (n + 1) (by omega)]
theorem ch_zero (n : Nat) : ch n 0 = 1 := by cases n <;> rw [ch]
theorem ch_succ (n k : Nat) : ch (n + 1) (k + 1) = ch n k + ch n (k + 1) := by rw [ch]
theorem ch_mul : ∀ n k, (k + 1) * ch (n + 1) (k + 1) = (n + 1) * ch n k
  | 0, 0 => by decide
  | 0, k + 1 => by rw [ch_over 1 (k + 2) (by omega), ch_over 0 (k + 1) (by omega)]; omega
  | n + 1, 0 => by
    have h := ch_mul n 0
    rw [ch_succ (n + 1) 0, ch_zero]
    rw [ch_zero] at h
    grind
  | n + 1, k + 1 => by
    have h1 := ch_mul n k
    have h2 := ch_mul n (k + 1)
    have h3 := ch_succ n k
    rw [ch_succ (n + 1) (k + 1)]
    grind
def sm (f : Nat → Nat) : Nat → Nat
  | 0 => 0
  | n + 1 => sm f n + f n
theorem sm_mul (f : Nat → Nat) (c : Nat) : ∀ n, sm f n * c = sm (fun i => f i * c) n
  | 0 => Nat.zero_mul _
  | n + 1 => by rw [sm, sm, Nat.add_mul, sm_mul f c n]
theorem sm_add (f g : Nat → Nat) : ∀ n, sm f n + sm g n = sm (fun i => f i + g i) n
  | 0 => rfl
  | n + 1 => by simp only [sm]; rw [← sm_add f g n]; omega
theorem sm_shift (f : Nat → Nat) : ∀ n, sm f (n + 1) = f 0 + sm (fun i => f (i + 1)) n
  | 0 => by simp only [sm]; omega
  | n + 1 => by rw [sm, sm_shift f n, sm]; omega
theorem sm_congr {f g : Nat → Nat} : ∀ n, (∀ i < n, f i = g i) → sm f n = sm g n
  | 0, _ => rfl
  | n + 1, h => by rw [sm, sm, sm_congr n (fun i hi => h i (by omega)), h n (by omega)]
theorem binom (a : Nat) : ∀ n, (a + 1) ^ n = sm (fun k => ch n k * a ^ k) (n + 1)
  | 0 => by rw [Nat.pow_zero, sm, sm, ch_zero, Nat.pow_zero]
  | n + 1 => by
    rw [Nat.pow_succ, binom a n, Nat.mul_add, Nat.mul_one, sm_mul]
    have h1 : sm (fun k => ch n k * a ^ k) (n + 1) = sm (fun k => ch n k * a ^ k) (n + 2) := by
      conv => rhs; rw [sm]
      rw [ch_over n (n + 1) (by omega)]; omega
    rw [h1, sm_shift _ (n + 1), sm_shift _ (n + 1), Nat.add_comm, Nat.add_assoc, sm_add, ch_zero, ch_zero]
    congr 1
    refine sm_congr _ fun i _ => ?_
    rw [ch_succ, Nat.pow_succ]
    grind
theorem fermat (p : Nat) (hp : 0 < p) (hc : ∀ k, 0 < k → k < p → Nat.gcd p k = 1) (a : Nat) : Cg p (a ^ p) a := by
  induction a with
  | zero => rw [Nat.zero_pow hp]; exact Cg.refl _ _
  | succ a ih =>
    obtain ⟨n, rfl⟩ : ∃ n, p = n + 1 := ⟨p - 1, by omega⟩
    rw [binom, sm, sm_shift, ch_self, ch_zero]
    have h : ∀ k, k ≤ n → Cg (n + 1) (sm (fun i => ch (n + 1) (i + 1) * a ^ (i + 1)) k) 0 := by
      intro k
      induction k with
      | zero => intro _; exact Cg.refl _ _
      | succ k ihk =>
        intro hk
        rw [sm]
        refine ((ihk (by omega)).add (d := 0) ?_)
        have h1 := ch_mul n k
        have h2 : n + 1 ∣ ch (n + 1) (k + 1) := Nat.Coprime.dvd_of_dvd_mul_left (k := n + 1) (m := k + 1) (hc (k + 1) (by omega) (by omega)) ⟨_, h1⟩
        obtain ⟨q, hq⟩ := h2
        rw [hq]
        refine ⟨((q * a ^ (k + 1) : Nat) : Int), ?_⟩
        rw [Nat.mul_assoc, Int.natCast_mul]; omega
    have h1 := h n (Nat.le_refl _)
    rw [Nat.pow_zero, Nat.one_mul, Nat.one_mul]
    have := ((Cg.refl (n + 1) 1).add h1).add ih
    rw [show 1 + 0 + a = a + 1 by omega] at this
    exact this
end Go.Nt
