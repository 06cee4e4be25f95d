import PyProof.Rows.All
import Wide.All
import OpenK.AllK
import Wide.FinOn
import PyProof.ListStr
import HandS.ForMost
import HandS.More
import HandS.Wide
import HandS.IsInst
import HandS.DictComp
import HandS.Defaults
import HandS.Conv
import HandS.Strs
import HandS.Walk
import HandS.Codes
import PySem.Challenge.RW_linegrow_k48_whole_alike_for_ever
import PyProof.Rows.RegReprOcc
import HandS.Set
import HandS.SetFor
import HandS.SetTxt0
import PyProof.StrWalks
set_option Elab.async false
set_option linter.all false
set_option maxRecDepth 100000
/-! ## LGa -/
/-! Sums and the integrality of the least tie. Core Lean only. -/
namespace LG

/-- finite sums -/
def sm : Nat → (Nat → Int) → Int
  | 0, _ => 0
  | n + 1, f => sm n f + f n

theorem sm_congr {n : Nat} {f g : Nat → Int} (h : ∀ i, i < n → f i = g i) : sm n f = sm n g := by
  induction n with
  | zero => rfl
  | succ n ih => simp only [sm]; rw [ih (fun i hi => h i (by omega)), h n (by omega)]

theorem sm_zero {n : Nat} {f : Nat → Int} (h : ∀ i, i < n → f i = 0) : sm n f = 0 := by
  induction n with
  | zero => rfl
  | succ n ih => simp only [sm]; rw [ih (fun i hi => h i (by omega)), h n (by omega)]; rfl

theorem sm_add (n : Nat) (f g : Nat → Int) : sm n (fun i => f i + g i) = sm n f + sm n g := by
  induction n with
  | zero => rfl
  | succ n ih => simp only [sm]; rw [ih]; omega

theorem sm_sub (n : Nat) (f g : Nat → Int) : sm n (fun i => f i - g i) = sm n f - sm n g := by
  induction n with
  | zero => rfl
  | succ n ih => simp only [sm]; rw [ih]; omega

theorem sm_mul (n : Nat) (c : Int) (f : Nat → Int) : sm n (fun i => c * f i) = c * sm n f := by
  induction n with
  | zero => simp [sm]
  | succ n ih => simp only [sm]; rw [ih, Int.mul_add]

theorem sm_mul_right (n : Nat) (c : Int) (f : Nat → Int) : sm n (fun i => f i * c) = sm n f * c := by
  induction n with
  | zero => simp [sm]
  | succ n ih => simp only [sm]; rw [ih, Int.add_mul]

theorem sm_neg (n : Nat) (f : Nat → Int) : sm n (fun i => - f i) = - sm n f := by
  induction n with
  | zero => rfl
  | succ n ih => simp only [sm]; rw [ih]; omega

theorem sm_swap (n m : Nat) (f : Nat → Nat → Int) : sm n (fun i => sm m (fun j => f i j)) = sm m (fun j => sm n (fun i => f i j)) := by
  induction n with
  | zero => simp only [sm]; rw [sm_zero]; intros; rfl
  | succ n ih => simp only [sm]; rw [ih, ← sm_add]

theorem sm_shift (n : Nat) (f : Nat → Int) : sm (n + 1) f = f 0 + sm n (fun i => f (i + 1)) := by
  induction n with
  | zero => simp only [sm]; omega
  | succ n ih =>
    have e : sm (n + 1 + 1) f = sm (n + 1) f + f (n + 1) := rfl
    rw [e, ih]; simp only [sm]; omega

theorem sm_le {n m : Nat} {f : Nat → Int} (h : n ≤ m) (hz : ∀ i, n ≤ i → i < m → f i = 0) : sm m f = sm n f := by
  induction m with
  | zero => rw [show n = 0 by omega]
  | succ m ih =>
    by_cases e : n = m + 1
    · rw [e]
    · simp only [sm]
      rw [ih (by omega) (fun i hi hj => hz i hi (by omega)), hz m (by omega) (by omega)]; omega

theorem sm_one {n k : Nat} {f : Nat → Int} (hk : k < n) (hz : ∀ i, i < n → i ≠ k → f i = 0) : sm n f = f k := by
  rw [sm_le (n := k + 1) (by omega) (fun i hi hj => hz i hj (by omega))]
  simp only [sm]
  rw [sm_zero (fun i hi => hz i (by omega) (by omega))]; omega

/-- a relation among the first vectors goes on for ever -/
def Shift (v : Nat → Nat → Int) : Prop :=
  ∀ (r : Nat) (a : Nat → Int), (∀ j, sm (r + 1) (fun i => a i * v i j) = 0) → ∀ n j, sm (r + 1) (fun i => a i * v (n + i) j) = 0

section elim
variable (B : Nat → Nat → Int) (ld : Nat → Nat)
/-- the elimination as a chain of linear maps -/
def E : Nat → (Nat → Int) → Nat → Int
  | 0, x => x
  | k + 1, x => fun j => B k (ld k) * E k x j - E k x (ld k) * B k j

def Lp : Nat → Int
  | 0 => 1
  | k + 1 => B k (ld k) * Lp k

theorem Lp_ne {r : Nat} (h : ∀ k, k < r → B k (ld k) ≠ 0) : ∀ k, k ≤ r → Lp B ld k ≠ 0
  | 0, _ => by simp [Lp]
  | k + 1, hk => by
    simp only [Lp]
    exact Int.mul_ne_zero (h k (by omega)) (Lp_ne h k (by omega))

theorem E_lin (n : Nat) (a : Nat → Int) (x : Nat → Nat → Int) : ∀ k j, E B ld k (fun j => sm n (fun i => a i * x i j)) j = sm n (fun i => a i * E B ld k (x i) j)
  | 0, _ => rfl
  | k + 1, j => by
    simp only [E]
    rw [E_lin n a x k j, E_lin n a x k (ld k), ← sm_mul, ← sm_mul_right, ← sm_sub]
    refine sm_congr fun i _ => ?_
    rw [Int.mul_sub, ← Int.mul_assoc, ← Int.mul_assoc, ← Int.mul_assoc, Int.mul_comm (B k (ld k)) (a i)]

theorem E_congr {x y : Nat → Int} (h : ∀ j, x j = y j) : ∀ k j, E B ld k x j = E B ld k y j := by
  intro k j
  rw [show x = y from funext h]

theorem E_smul (c : Int) (x : Nat → Int) : ∀ k j, E B ld k (fun j => c * x j) j = c * E B ld k x j
  | 0, _ => rfl
  | k + 1, j => by
    simp only [E]
    rw [E_smul c x k j, E_smul c x k (ld k), Int.mul_sub, ← Int.mul_assoc, ← Int.mul_assoc, ← Int.mul_assoc, Int.mul_comm (B k (ld k)) c]

theorem E_span {v : Nat → Nat → Int} {r : Nat} (hB : ∀ k, k < r → ∃ m : Nat → Int, ∀ j, B k j = sm r (fun i => m i * v i j)) :
    ∀ k, k ≤ r → ∀ x : Nat → Int, ∃ z : Nat → Int, ∀ j, E B ld k x j = Lp B ld k * x j - sm r (fun i => z i * v i j)
  | 0, _, x => ⟨fun _ => 0, fun j => by
      simp only [E, Lp]
      rw [sm_zero (fun i _ => by rw [Int.zero_mul])]; omega⟩
  | k + 1, hk, x => by
    obtain ⟨z, hz⟩ := E_span hB k (by omega) x
    obtain ⟨m, hm⟩ := hB k (by omega)
    refine ⟨fun i => B k (ld k) * z i + E B ld k x (ld k) * m i, fun j => ?_⟩
    simp only [E, Lp]
    have e1 : sm r (fun i => (B k (ld k) * z i + E B ld k x (ld k) * m i) * v i j) = B k (ld k) * sm r (fun i => z i * v i j) + E B ld k x (ld k) * B k j := by
      rw [hm j, ← sm_mul, ← sm_mul, ← sm_add]
      refine sm_congr fun i _ => ?_
      rw [Int.add_mul, Int.mul_assoc, Int.mul_assoc]
    rw [e1, hz j, Int.mul_sub, Int.mul_assoc]
    omega
end elim

/-- what the elimination keeps of the first r vectors -/
structure Kept (v : Nat → Nat → Int) (r : Nat) (B : Nat → Nat → Int) (ld : Nat → Nat) : Prop where
  span : ∀ k, k < r → ∃ m : Nat → Int, ∀ j, B k j = sm r (fun i => m i * v i j)
  ne : ∀ k, k < r → B k (ld k) ≠ 0
  of : ∀ k, k < r → ∃ q : Int, q ≠ 0 ∧ ∀ j, E B ld k (v k) j = q * B k j

section kept
variable {v : Nat → Nat → Int} {r : Nat} {B : Nat → Nat → Int} {ld : Nat → Nat}

theorem Kept.kill (K : Kept v r B ld) : ∀ k, k ≤ r → ∀ i, i < k → ∀ j, E B ld k (v i) j = 0
  | 0, _, i, h, _ => by omega
  | k + 1, hk, i, h, j => by
    by_cases e : i = k
    · subst e
      obtain ⟨q, _, hq⟩ := K.of i (by omega)
      simp only [E]
      rw [hq, hq, Int.mul_right_comm q, ← Int.mul_assoc, Int.mul_comm (B i (ld i)) q, Int.mul_right_comm q]
      omega
    · simp only [E]
      rw [K.kill k (by omega) i (by omega) j, K.kill k (by omega) i (by omega) (ld k)]
      omega

theorem Kept.indep (K : Kept v r B ld) {b : Nat → Int} (h : ∀ j, sm r (fun i => b i * v i j) = 0) : ∀ i, i < r → b i = 0 := by
  have key : ∀ d, d ≤ r → ∀ i, r - d ≤ i → i < r → b i = 0 := by
    intro d
    induction d with
    | zero => intro _ i h1 h2; omega
    | succ d ih =>
      intro hd i h1 h2
      by_cases e : i = r - (d + 1)
      · have hi : i + 1 ≤ r := by omega
        have h0 : ∀ j, sm (i + 1) (fun t => b t * v t j) = 0 := fun j => by
          rw [← h j]
          refine (sm_le hi fun t ht hr => ?_).symm
          rw [ih (by omega) t (by omega) hr, Int.zero_mul]
        have h1 : sm (i + 1) (fun t => b t * E B ld i (v t) (ld i)) = 0 := by
          rw [← E_lin B ld (i + 1) b v i (ld i), E_congr B ld (y := fun j => (0 : Int) * v i j) (fun j => by rw [h0 j, Int.zero_mul]) i (ld i), E_smul, Int.zero_mul]
        rw [sm_one (k := i) (by omega) (fun t ht hne => by rw [K.kill i (by omega) t (by omega), Int.mul_zero])] at h1
        obtain ⟨q, q0, hq⟩ := K.of i h2
        rw [hq] at h1
        rcases Int.mul_eq_zero.mp h1 with h3 | h3
        · exact h3
        · exact absurd h3 (Int.mul_ne_zero q0 (K.ne i h2))
      · exact ih (by omega) i (by omega) h2
  exact fun i hi => key r (Nat.le_refl r) i (by omega) hi

/-- every later vector, times one number, is put together of the first r -/
theorem Kept.denom (K : Kept v r B ld) (S : Shift v) {a : Nat → Int} (ha : ∀ j, sm (r + 1) (fun i => a i * v i j) = 0) (h0 : a r ≠ 0) :
    ∀ n, ∃ z : Nat → Int, ∀ j, Lp B ld r * v n j = sm r (fun i => z i * v i j) := by
  have zero : ∀ n j, E B ld r (v n) j = 0 := by
    intro n
    induction n using Nat.strongRecOn with
    | _ n ih =>
      intro j
      by_cases hn : n < r
      · exact K.kill r (Nat.le_refl r) n hn j
      · have h1 := E_lin B ld (r + 1) a (fun i => v (n - r + i)) r j
        rw [E_congr B ld (y := fun j => (0 : Int) * v 0 j) (fun j => by rw [S r a ha (n - r) j, Int.zero_mul]) r j, E_smul, Int.zero_mul] at h1
        simp only [sm] at h1
        rw [sm_zero (fun i hi => by rw [ih (n - r + i) (by omega) j, Int.mul_zero]), show n - r + r = n by omega, Int.zero_add] at h1
        rcases Int.mul_eq_zero.mp h1.symm with h3 | h3
        · exact absurd h3 h0
        · exact h3
  intro n
  obtain ⟨z, hz⟩ := E_span B ld K.span r (Nat.le_refl r) (v n)
  exact ⟨z, fun j => by have h1 := hz j; rw [zero n j] at h1; omega⟩
end kept

/-! ### primes -/
def Prm (p : Nat) : Prop := 2 ≤ p ∧ ∀ d, d ∣ p → d = 1 ∨ d = p

theorem prm_of (n : Nat) (h : 2 ≤ n) : ∃ p, Prm p ∧ p ∣ n := by
  induction n using Nat.strongRecOn with
  | _ n ih =>
    by_cases hp : ∀ d, d ∣ n → d = 1 ∨ d = n
    · exact ⟨n, ⟨h, hp⟩, Nat.dvd_refl n⟩
    · obtain ⟨d, hd⟩ := Classical.not_forall.mp hp
      obtain ⟨hd1, hd2⟩ := Classical.not_imp.mp hd
      have dle : d ≤ n := Nat.le_of_dvd (by omega) hd1
      have d0 : d ≠ 0 := fun z => by
        subst z
        have := Nat.zero_dvd.mp hd1
        omega
      obtain ⟨p, hp1, hp2⟩ := ih d (by omega) (by omega)
      exact ⟨p, hp1, Nat.dvd_trans hp2 hd1⟩

theorem Prm.cop {p : Nat} (P : Prm p) {x : Int} (h : ¬ (p : Int) ∣ x) : Nat.Coprime p x.natAbs := by
  rcases P.2 _ (Nat.gcd_dvd_left p x.natAbs) with e | e
  · exact e
  · exfalso
    apply h
    have h2 : p ∣ x.natAbs := by
      have := Nat.gcd_dvd_right p x.natAbs
      rwa [e] at this
    exact Int.ofNat_dvd_left.mpr h2

theorem pow_gt (p n : Nat) (hp : 2 ≤ p) : n < p ^ n := by
  induction n with
  | zero => simp
  | succ n ih =>
    rw [Nat.pow_succ]
    have h1 : p ^ n * 2 ≤ p ^ n * p := Nat.mul_le_mul_left _ hp
    omega

section nak
variable {v : Nat → Nat → Int} {r : Nat} {B : Nat → Nat → Int} {ld : Nat → Nat}

/-- m L x is L times a sum of the first j0, up to p^k -/
def Nk (v : Nat → Nat → Int) (r j0 p : Nat) (L : Int) (k : Nat) (x : Nat → Int) : Prop :=
  ∃ (m : Int) (s z : Nat → Int), Nat.Coprime p m.natAbs ∧ ∀ c, m * L * x c = L * sm j0 (fun i => s i * v i c) + (p : Int) ^ k * sm r (fun i => z i * v i c)

theorem Nk.add {j0 p : Nat} {L : Int} {k : Nat} {x y : Nat → Int} (hx : Nk v r j0 p L k x) (hy : Nk v r j0 p L k y) : Nk v r j0 p L k (fun c => x c + y c) := by
  obtain ⟨m, s, z, hm, h⟩ := hx
  obtain ⟨m', s', z', hm', h'⟩ := hy
  refine ⟨m * m', fun i => m' * s i + m * s' i, fun i => m' * z i + m * z' i, ?_, fun c => ?_⟩
  · rw [Int.natAbs_mul]; exact Nat.Coprime.mul_right hm hm'
  · have e1 : sm j0 (fun i => (m' * s i + m * s' i) * v i c) = m' * sm j0 (fun i => s i * v i c) + m * sm j0 (fun i => s' i * v i c) := by
      rw [← sm_mul, ← sm_mul, ← sm_add]
      exact sm_congr fun i _ => by rw [Int.add_mul, Int.mul_assoc, Int.mul_assoc]
    have e2 : sm r (fun i => (m' * z i + m * z' i) * v i c) = m' * sm r (fun i => z i * v i c) + m * sm r (fun i => z' i * v i c) := by
      rw [← sm_mul, ← sm_mul, ← sm_add]
      exact sm_congr fun i _ => by rw [Int.add_mul, Int.mul_assoc, Int.mul_assoc]
    rw [e1, e2]
    have a1 := congrArg (m' * ·) (h c)
    have a2 := congrArg (m * ·) (h' c)
    calc m * m' * L * (x c + y c) = m' * (m * L * x c) + m * (m' * L * y c) := by grind
      _ = _ := by rw [a1, a2]; grind

theorem Nk.smul {j0 p : Nat} {L : Int} {k : Nat} {x : Nat → Int} (a : Int) (hx : Nk v r j0 p L k x) : Nk v r j0 p L k (fun c => a * x c) := by
  obtain ⟨m, s, z, hm, h⟩ := hx
  refine ⟨m, fun i => a * s i, fun i => a * z i, hm, fun c => ?_⟩
  have e1 : sm j0 (fun i => a * s i * v i c) = a * sm j0 (fun i => s i * v i c) := by
    rw [← sm_mul]; exact sm_congr fun i _ => by rw [Int.mul_assoc]
  have e2 : sm r (fun i => a * z i * v i c) = a * sm r (fun i => z i * v i c) := by
    rw [← sm_mul]; exact sm_congr fun i _ => by rw [Int.mul_assoc]
  rw [e1, e2]
  have a1 := congrArg (a * ·) (h c)
  calc m * L * (a * x c) = a * (m * L * x c) := by grind
    _ = _ := by rw [a1]; grind

theorem Nk.zero {j0 p : Nat} {L : Int} {k : Nat} : Nk v r j0 p L k (fun _ => 0) :=
  ⟨1, fun _ => 0, fun _ => 0, by simp [Nat.Coprime], fun c => by
    rw [sm_zero (fun i _ => Int.zero_mul _), sm_zero (fun i _ => Int.zero_mul _)]; simp⟩

theorem Nk.congr {j0 p : Nat} {L : Int} {k : Nat} {x y : Nat → Int} (hx : Nk v r j0 p L k x) (e : ∀ c, x c = y c) : Nk v r j0 p L k y := by
  rw [show y = x from funext fun c => (e c).symm]; exact hx

theorem Nk.sum {j0 p : Nat} {L : Int} {k : Nat} (n : Nat) (x : Nat → Nat → Int) (h : ∀ i, i < n → Nk v r j0 p L k (x i)) : Nk v r j0 p L k (fun c => sm n (fun i => x i c)) := by
  induction n with
  | zero => exact Nk.zero
  | succ n ih => exact (ih fun i hi => h i (by omega)).add (h n (by omega))

theorem Nk.up {j0 p : Nat} {L : Int} {k : Nat} {x : Nat → Int} (hx : Nk v r j0 p L k x) : Nk v r j0 p L (k + 1) (fun c => (p : Int) * x c) := by
  obtain ⟨m, s, z, hm, h⟩ := hx
  refine ⟨m, fun i => p * s i, z, hm, fun c => ?_⟩
  have e1 : sm j0 (fun i => (p : Int) * s i * v i c) = p * sm j0 (fun i => s i * v i c) := by
    rw [← sm_mul]; exact sm_congr fun i _ => by rw [Int.mul_assoc]
  rw [e1, Int.pow_succ]
  have a1 := congrArg ((p : Int) * ·) (h c)
  calc m * L * (p * x c) = p * (m * L * x c) := by grind
    _ = _ := by rw [a1]; grind

theorem Nk.unmul {j0 p : Nat} {L : Int} {k : Nat} {x : Nat → Int} {a : Int} (ha : Nat.Coprime p a.natAbs) (hx : Nk v r j0 p L k (fun c => a * x c)) : Nk v r j0 p L k x := by
  obtain ⟨m, s, z, hm, h⟩ := hx
  refine ⟨m * a, s, z, ?_, fun c => ?_⟩
  · rw [Int.natAbs_mul]; exact Nat.Coprime.mul_right hm ha
  · rw [← h c]; grind

theorem top_of {p : Nat} {a : Nat → Int} : ∀ r, (∃ i, i ≤ r ∧ ¬ (p : Int) ∣ a i) → ∃ j, j ≤ r ∧ ¬ (p : Int) ∣ a j ∧ ∀ i, j < i → i ≤ r → (p : Int) ∣ a i
  | 0, ⟨i, hi, h⟩ => ⟨0, Nat.le_refl 0, by rwa [show i = 0 by omega] at h, fun i h1 h2 => by omega⟩
  | r + 1, ⟨i, hi, h⟩ => by
    by_cases hr : (p : Int) ∣ a (r + 1)
    · obtain ⟨j, j1, j2, j3⟩ := top_of r ⟨i, by
        by_cases e : i = r + 1
        · subst e; exact absurd hr h
        · omega, h⟩
      refine ⟨j, by omega, j2, fun t h1 h2 => ?_⟩
      by_cases e : t = r + 1
      · subst e; exact hr
      · exact j3 t h1 (by omega)
    · exact ⟨r + 1, Nat.le_refl _, hr, fun t h1 h2 => by omega⟩

/-- the leading number of the first relation is 1 or -1 -/
theorem lead_unit (K : Kept v r B ld) (S : Shift v) {a : Nat → Int} (ha : ∀ j, sm (r + 1) (fun i => a i * v i j) = 0) (h0 : a r ≠ 0)
    (hp : ∀ d : Nat, (∀ i, i ≤ r → (d : Int) ∣ a i) → d = 1) : (a r).natAbs = 1 := by
  by_cases h1 : (a r).natAbs = 1
  · exact h1
  exfalso
  have h2 : 2 ≤ (a r).natAbs := by omega
  obtain ⟨p, P, pd⟩ := prm_of _ h2
  have pr : (p : Int) ∣ a r := Int.ofNat_dvd_left.mpr pd
  have ex : ∃ i, i ≤ r ∧ ¬ (p : Int) ∣ a i := by
    apply Classical.byContradiction
    intro hn
    have : p = 1 := hp p fun i hi => Classical.byContradiction fun hh => hn ⟨i, hi, hh⟩
    have := P.1
    omega
  obtain ⟨j0, j1, j2, j3⟩ := top_of r ex
  have jr : j0 < r := by
    by_cases e : j0 = r
    · subst e; exact absurd pr j2
    · omega
  have L0 : Lp B ld r ≠ 0 := Lp_ne B ld K.ne r (Nat.le_refl r)
  have den := K.denom S ha h0
  have key : ∀ k n, Nk v r j0 p (Lp B ld r) k (v n) := by
    intro k
    induction k with
    | zero =>
      intro n
      obtain ⟨z, hz⟩ := den n
      refine ⟨1, fun _ => 0, z, by simp [Nat.Coprime], fun c => ?_⟩
      rw [sm_zero (fun i _ => Int.zero_mul _), ← hz c]; simp
    | succ k ihk =>
      intro n
      induction n using Nat.strongRecOn with
      | _ n ih =>
        by_cases hn : n < j0
        · refine ⟨1, fun i => if i = n then 1 else 0, fun _ => 0, by simp [Nat.Coprime], fun c => ?_⟩
          rw [sm_zero (n := r) (fun i _ => Int.zero_mul _), sm_one (k := n) hn (fun i _ hne => by simp [hne])]
          simp
        · refine Nk.unmul (P.cop j2) ?_
          have hs := S r a ha (n - j0)
          -- a j0 * v n = - sum of the others
          let f : Nat → Nat → Int := fun i c => if i = j0 then 0 else - (a i * v (n - j0 + i) c)
          have hf : Nk v r j0 p (Lp B ld r) (k + 1) (fun c => sm (r + 1) (fun i => f i c)) := by
            refine Nk.sum (r + 1) f fun i hi => ?_
            by_cases e : i = j0
            · exact Nk.zero.congr fun c => by simp [f, e]
            · by_cases lt : i < j0
              · exact ((ih (n - j0 + i) (by omega)).smul (- a i)).congr fun c => by
                  simp only [f, if_neg e]; rw [Int.neg_mul]
              · obtain ⟨b, hb⟩ := j3 i (by omega) (by omega)
                exact (((ihk (n - j0 + i)).smul (- b)).up).congr fun c => by
                  simp only [f, if_neg e, hb]; grind
          refine hf.congr fun c => ?_
          have h3 : sm (r + 1) (fun i => f i c) + sm (r + 1) (fun i => a i * v (n - j0 + i) c) = a j0 * v (n - j0 + j0) c := by
            rw [← sm_add]
            rw [sm_one (k := j0) (by omega) (fun i _ hne => by simp only [f, if_neg hne]; omega)]
            simp [f]
          rw [hs c, show n - j0 + j0 = n by omega] at h3
          omega
  -- the coefficient of v_j0
  let k := (Lp B ld r).natAbs
  obtain ⟨m, s, z, hm, h⟩ := key k j0
  have ind := K.indep (b := fun i => (if i < j0 then Lp B ld r * s i else 0) + (p : Int) ^ k * z i - (if i = j0 then m * Lp B ld r else 0)) (fun c => by
    have e1 : sm r (fun i => ((if i < j0 then Lp B ld r * s i else 0) + (p : Int) ^ k * z i - (if i = j0 then m * Lp B ld r else 0)) * v i c)
        = sm r (fun i => (if i < j0 then Lp B ld r * s i else 0) * v i c) + sm r (fun i => (p : Int) ^ k * z i * v i c) - sm r (fun i => (if i = j0 then m * Lp B ld r else 0) * v i c) := by
      rw [← sm_add, ← sm_sub]
      exact sm_congr fun i _ => by rw [Int.sub_mul, Int.add_mul]
    have e2 : sm r (fun i => (if i < j0 then Lp B ld r * s i else 0) * v i c) = Lp B ld r * sm j0 (fun i => s i * v i c) := by
      rw [sm_le (n := j0) (by omega) (fun i hi _ => by rw [if_neg (by omega), Int.zero_mul]), ← sm_mul]
      exact sm_congr fun i hi => by rw [if_pos hi, Int.mul_assoc]
    have e3 : sm r (fun i => (p : Int) ^ k * z i * v i c) = (p : Int) ^ k * sm r (fun i => z i * v i c) := by
      rw [← sm_mul]; exact sm_congr fun i _ => by rw [Int.mul_assoc]
    have e4 : sm r (fun i => (if i = j0 then m * Lp B ld r else 0) * v i c) = m * Lp B ld r * v j0 c := by
      rw [sm_one (k := j0) jr (fun i _ hne => by rw [if_neg hne, Int.zero_mul]), if_pos rfl]
    rw [e1, e2, e3, e4, h c]; omega) j0 jr
  simp only [Nat.lt_irrefl, if_false, if_true] at ind
  have dv : (p : Int) ^ k ∣ m * Lp B ld r := ⟨z j0, by omega⟩
  have dv2 : p ^ k ∣ m.natAbs * (Lp B ld r).natAbs := by
    have := Int.natAbs_dvd_natAbs.mpr dv
    rwa [Int.natAbs_mul, Int.natAbs_pow, Int.natAbs_natCast] at this
  have dv3 : p ^ k ∣ (Lp B ld r).natAbs := Nat.Coprime.dvd_of_dvd_mul_left (Nat.Coprime.pow_left k hm) dv2
  have le := Nat.le_of_dvd (by have := L0; omega) dv3
  have gt := pow_gt p k P.1
  omega
end nak
end LG

/-! ## LGb -/
/-! The elimination on lists. Core Lean only. -/
namespace LG

def g (xs : List Int) (i : Nat) : Int := xs.getD i 0

theorem g_lt {xs : List Int} {i : Nat} (h : i < xs.length) : g xs i = xs[i] := by
  unfold g; rw [List.getD_eq_getElem?_getD, List.getElem?_eq_getElem h]; rfl

theorem g_ge {xs : List Int} {i : Nat} (h : xs.length ≤ i) : g xs i = 0 := by
  unfold g; rw [List.getD_eq_getElem?_getD, List.getElem?_eq_none h]; rfl

theorem g_some {xs : List Int} {i : Nat} {x : Int} (h : xs[i]? = some x) : g xs i = x := by
  unfold g; rw [List.getD_eq_getElem?_getD, h]; rfl

theorem some_g {xs : List Int} {i : Nat} (h : i < xs.length) : xs[i]? = some (g xs i) := by
  rw [g_lt h]; exact List.getElem?_eq_getElem h

theorem g_map {f : Int → Int} {xs : List Int} {i : Nat} (h : i < xs.length) : g (xs.map f) i = f (g xs i) := by
  rw [g_lt (by rw [List.length_map]; exact h), g_lt h, List.getElem_map]

theorem g_zip {f : Int → Int → Int} {xs ys : List Int} {i : Nat} (h : i < xs.length) (h' : i < ys.length) : g (List.zipWith f xs ys) i = f (g xs i) (g ys i) := by
  rw [g_lt (by rw [List.length_zipWith]; omega), g_lt h, g_lt h', List.getElem_zipWith]

theorem g_app_l {xs ys : List Int} {i : Nat} (h : i < xs.length) : g (xs ++ ys) i = g xs i := by
  unfold g; rw [List.getD_eq_getElem?_getD, List.getElem?_append_left h, ← List.getD_eq_getElem?_getD]

theorem g_app_r {xs ys : List Int} {i : Nat} : g (xs ++ ys) (xs.length + i) = g ys i := by
  unfold g; rw [List.getD_eq_getElem?_getD, List.getElem?_append_right (by omega), Nat.add_sub_cancel_left, ← List.getD_eq_getElem?_getD]

theorem g_mem {xs : List Int} {P : Int → Prop} (h : ∀ i, i < xs.length → P (g xs i)) : ∀ x, x ∈ xs → P x := by
  intro x hx
  obtain ⟨i, hi, e⟩ := List.getElem_of_mem hx
  have := h i hi
  rwa [g_lt hi, e] at this

theorem mem_g {xs : List Int} {P : Int → Prop} (h : ∀ x, x ∈ xs → P x) : ∀ i, i < xs.length → P (g xs i) := by
  intro i hi
  rw [g_lt hi]
  exact h _ (List.getElem_mem hi)

theorem ext_g {xs ys : List Int} (hl : xs.length = ys.length) (h : ∀ i, i < xs.length → g xs i = g ys i) : xs = ys := by
  refine List.ext_getElem hl fun i h1 h2 => ?_
  rw [← g_lt h1, ← g_lt h2, h i h1]

/-! ### lowered -/
def gcdL (xs : List Int) : Nat := xs.foldl (fun (p : Nat) x => Nat.gcd p x.natAbs) 0

def lowered (xs : List Int) : List Int := if (gcdL xs : Int) < 2 then xs else xs.map (fun x => x / (gcdL xs : Int))

theorem gcdL_dvd_aux (xs : List Int) : ∀ p : Nat, (xs.foldl (fun (p : Nat) x => Nat.gcd p x.natAbs) p ∣ p) ∧ ∀ x, x ∈ xs → xs.foldl (fun (p : Nat) x => Nat.gcd p x.natAbs) p ∣ x.natAbs := by
  induction xs with
  | nil => intro p; exact ⟨Nat.dvd_refl p, fun x h => by cases h⟩
  | cons y ys ih =>
    intro p
    obtain ⟨h1, h2⟩ := ih (Nat.gcd p y.natAbs)
    refine ⟨Nat.dvd_trans h1 (Nat.gcd_dvd_left _ _), fun x h => ?_⟩
    rcases List.mem_cons.mp h with e | e
    · subst e; exact Nat.dvd_trans h1 (Nat.gcd_dvd_right _ _)
    · exact h2 x e

theorem gcdL_dvd {xs : List Int} {x : Int} (h : x ∈ xs) : (gcdL xs : Int) ∣ x := Int.ofNat_dvd_left.mpr ((gcdL_dvd_aux xs 0).2 x h)

theorem dvd_gcdL_aux (d : Nat) (xs : List Int) : ∀ p : Nat, d ∣ p → (∀ x, x ∈ xs → d ∣ x.natAbs) → d ∣ xs.foldl (fun (p : Nat) x => Nat.gcd p x.natAbs) p := by
  induction xs with
  | nil => intro p h _; exact h
  | cons y ys ih =>
    intro p h h2
    exact ih _ (Nat.dvd_gcd h (h2 y List.mem_cons_self)) fun x hx => h2 x (List.mem_cons_of_mem _ hx)

theorem dvd_gcdL {d : Nat} {xs : List Int} (h : ∀ x, x ∈ xs → (d : Int) ∣ x) : d ∣ gcdL xs :=
  dvd_gcdL_aux d xs 0 (Nat.dvd_zero d) fun x hx => Int.ofNat_dvd_left.mp (h x hx)

theorem lowered_length (xs : List Int) : (lowered xs).length = xs.length := by
  unfold lowered; split
  · rfl
  · exact List.length_map _

/-- no number beyond 1 divides them all -/
def Prim (xs : List Int) : Prop := ∀ d : Nat, (∀ i, i < xs.length → (d : Int) ∣ g xs i) → d = 1

theorem lowered_is {xs : List Int} {t : Nat} (h0 : g xs t ≠ 0) :
    (∃ p : Int, p ≠ 0 ∧ ∀ i, g xs i = p * g (lowered xs) i) ∧ Prim (lowered xs) ∧ ∀ i, (g (lowered xs) i).natAbs ≤ (g xs i).natAbs := by
  have ht : t < xs.length := by
    apply Classical.byContradiction
    intro hn
    exact h0 (g_ge (by omega))
  have hm : g xs t ∈ xs := by rw [g_lt ht]; exact List.getElem_mem ht
  have gne : gcdL xs ≠ 0 := fun e => by
    have := gcdL_dvd hm
    rw [e] at this
    exact h0 (Int.zero_dvd.mp this)
  have main : ∀ p : Nat, p = gcdL xs → ∀ ys : List Int, ys.length = xs.length → (∀ i, i < xs.length → g xs i = (p : Int) * g ys i) →
      (∃ p : Int, p ≠ 0 ∧ ∀ i, g xs i = p * g ys i) ∧ Prim ys ∧ ∀ i, (g ys i).natAbs ≤ (g xs i).natAbs := by
    intro p ep ys hl he
    have he' : ∀ i, g xs i = (p : Int) * g ys i := fun i => by
      by_cases hi : i < xs.length
      · exact he i hi
      · rw [g_ge (by omega), g_ge (by omega), Int.mul_zero]
    refine ⟨⟨p, by omega, he'⟩, fun d hd => ?_, fun i => ?_⟩
    · have h1 : p * d ∣ gcdL xs := dvd_gcdL (g_mem fun i hi => by
        rw [he i hi]
        obtain ⟨k, hk⟩ := hd i (by omega)
        rw [hk]
        exact ⟨k, by rw [Int.natCast_mul, Int.mul_assoc]⟩)
      rw [← ep] at h1
      have h2 := Nat.le_of_dvd (by omega) h1
      have h3 : 0 < d := by
        rcases Nat.eq_zero_or_pos d with e | e
        · subst e
          rw [Nat.mul_zero] at h1
          have := Nat.zero_dvd.mp h1
          omega
        · exact e
      have h4 : d ≤ 1 := Nat.le_of_mul_le_mul_left (by omega : p * d ≤ p * 1) (by omega)
      omega
    · rw [he' i, Int.natAbs_mul, Int.natAbs_natCast]
      exact Nat.le_mul_of_pos_left _ (by omega)
  unfold lowered
  split
  · exact main 1 (by omega) xs rfl fun i _ => by rw [Int.natCast_one, Int.one_mul]
  · refine main (gcdL xs) rfl _ (List.length_map _) fun i hi => ?_
    rw [g_map hi]
    exact (Int.mul_ediv_cancel' (gcdL_dvd (by rw [g_lt hi]; exact List.getElem_mem hi))).symm

/-! ### rows -/
structure RowAt (v : Nat → Nat → Int) (w m t : Nat) (x : List Int) : Prop where
  len : x.length = w + m
  vec : ∀ j, j < w → g x j = sm m (fun k => g x (w + k) * v k j)
  own : g x (w + t) ≠ 0
  nil : ∀ k, t < k → k < m → g x (w + k) = 0

def clearOne (y : List Int) (ld : Nat) (b : List Int) : List Int :=
  if g y ld ≠ 0 then lowered (List.zipWith (fun a c => g b ld * a - g y ld * c) y b) else y

def cleared (y : List Int) (kept : List (Nat × List Int)) : List Int := kept.foldl (fun y e => clearOne y e.1 e.2) y

/-- bits -/
def bb (t : Nat) : Nat := 7 * 2 ^ t - 4
def cc (t s : Nat) : Nat := 3 * t + 7 * 2 ^ s - 3 * s - 4

def keB (w : Nat) (kept : List (Nat × List Int)) (k j : Nat) : Int := if j < w then g (kept.getD k (0, [])).2 j else 0
def keL (kept : List (Nat × List Int)) (k : Nat) : Nat := (kept.getD k (0, [])).1

structure KeptAt (v : Nat → Nat → Int) (w m : Nat) (kept : List (Nat × List Int)) : Prop where
  row : ∀ k, k < kept.length → RowAt v w m k (kept.getD k (0, [])).2
  ld : ∀ k, k < kept.length → keL kept k < w
  ne : ∀ k, k < kept.length → keB w kept k (keL kept k) ≠ 0
  tri : ∀ k, k < kept.length → ∀ s, s < k → keB w kept k (keL kept s) = 0
  of : ∀ k, k < kept.length → ∃ q : Int, q ≠ 0 ∧ ∀ j, E (keB w kept) (keL kept) k (v k) j = q * keB w kept k j
  sz : ∀ k, k < kept.length → ∀ i, (g (kept.getD k (0, [])).2 i).natAbs < 2 ^ bb k

/-- the row at its s-th clearing -/
structure ClearAt (v : Nat → Nat → Int) (w m : Nat) (kept : List (Nat × List Int)) (s : Nat) (y : List Int) : Prop where
  row : RowAt v w m kept.length y
  of : ∃ q : Int, q ≠ 0 ∧ ∀ j, E (keB w kept) (keL kept) s (v kept.length) j = q * (if j < w then g y j else 0)
  tri : ∀ t, t < s → g y (keL kept t) = 0
  prim : Prim y
  sz : ∀ i, (g y i).natAbs < 2 ^ cc kept.length s

theorem bits_step {a b c d : Int} {n k : Nat} (ha : a.natAbs < 2 ^ n) (hb : b.natAbs < 2 ^ k) (hc : c.natAbs < 2 ^ k) (hd : d.natAbs < 2 ^ n) :
    (a * b - c * d).natAbs < 2 ^ (n + k + 1) := by
  have h1 : (a * b).natAbs < 2 ^ (n + k) := by
    rw [Int.natAbs_mul, Nat.pow_add]
    exact Nat.mul_lt_mul'' ha hb
  have h2 : (c * d).natAbs < 2 ^ (n + k) := by
    rw [Int.natAbs_mul, Nat.pow_add, Nat.mul_comm (2 ^ n)]
    exact Nat.mul_lt_mul'' hc hd
  rw [Nat.pow_succ]
  omega

theorem E_cong {B B' : Nat → Nat → Int} {ld ld' : Nat → Nat} : ∀ k, (∀ t, t < k → (∀ j, B t j = B' t j) ∧ ld t = ld' t) → ∀ x j, E B ld k x j = E B' ld' k x j
  | 0, _, _, _ => rfl
  | k + 1, h, x, j => by
    have ih := E_cong (B := B) (B' := B') (ld := ld) (ld' := ld') k (fun t ht => h t (by omega)) x
    simp only [E]
    rw [ih, ih, (h k (by omega)).1, (h k (by omega)).1, (h k (by omega)).2]

theorem mono_pow {x a b : Nat} (h : x < 2 ^ a) (hab : a ≤ b) : x < 2 ^ b := Nat.lt_of_lt_of_le h (Nat.pow_le_pow_right (by omega) hab)

section
variable {v : Nat → Nat → Int} {w m : Nat} {kept : List (Nat × List Int)}

/-- one clearing -/
theorem clear_step (K : KeptAt v w m kept) {s : Nat} {y : List Int} (hs : s < kept.length) (hkm : kept.length < m) (C : ClearAt v w m kept s y) :
    ClearAt v w m kept (s + 1) (clearOne y (keL kept s) (kept.getD s (0, [])).2) := by
  have R := K.row s hs
  have hld := K.ld s hs
  have hne := K.ne s hs
  have nb : keB w kept s (keL kept s) = g (kept.getD s (0, [])).2 (keL kept s) := by unfold keB; rw [if_pos hld]
  rw [nb] at hne
  have eb : cc kept.length (s + 1) = bb s + cc kept.length s + 1 := by
    unfold cc bb
    have : 1 ≤ 2 ^ s := Nat.one_le_two_pow
    have e2 : 2 ^ (s + 1) = 2 ^ s * 2 := Nat.pow_succ ..
    omega
  obtain ⟨q, q0, hq⟩ := C.of
  unfold clearOne
  generalize hb : (kept.getD s (0, [])).2 = b at *
  have nbj : ∀ j, keB w kept s j = if j < w then g b j else 0 := fun j => by unfold keB; rw [hb]
  by_cases hh : g y (keL kept s) ≠ 0
  · rw [if_pos hh]
    generalize hz : List.zipWith (fun a c => g b (keL kept s) * a - g y (keL kept s) * c) y b = z
    have lz : z.length = w + m := by rw [← hz, List.length_zipWith, C.row.len, R.len]; omega
    have gz : ∀ i, g z i = g b (keL kept s) * g y i - g y (keL kept s) * g b i := fun i => by
      by_cases hi : i < w + m
      · rw [← hz, g_zip (by rw [C.row.len]; exact hi) (by rw [R.len]; exact hi)]
      · rw [g_ge (by omega), g_ge (xs := y) (i := i) (by rw [C.row.len]; omega), g_ge (xs := b) (i := i) (by rw [R.len]; omega)]
        simp
    have ownz : g z (w + kept.length) ≠ 0 := by
      rw [gz, R.nil kept.length hs hkm, Int.mul_zero, Int.sub_zero]
      exact Int.mul_ne_zero hne C.row.own
    obtain ⟨⟨p, p0, hp⟩, prim, le⟩ := lowered_is ownz
    have ll := lowered_length z
    refine ⟨⟨by rw [ll, lz], fun j hj => ?_, fun e => ?_, fun k h1 h2 => ?_⟩, ?_, fun t ht => ?_, prim, fun i => ?_⟩
    · have h1 : p * g (lowered z) j = p * sm m (fun k => g (lowered z) (w + k) * v k j) := by
        rw [← hp, gz, C.row.vec j hj, R.vec j hj, ← sm_mul, ← sm_mul, ← sm_mul, ← sm_sub]
        refine sm_congr fun k _ => ?_
        rw [← Int.mul_assoc, ← Int.mul_assoc, ← Int.sub_mul, ← gz, hp, Int.mul_assoc]
      exact Int.eq_of_mul_eq_mul_left p0 h1
    · apply ownz
      rw [hp, e, Int.mul_zero]
    · have h3 : g z (w + k) = 0 := by rw [gz, C.row.nil k h1 h2, R.nil k (by omega) h2]; simp
      rw [hp] at h3
      rcases Int.mul_eq_zero.mp h3 with h4 | h4
      · exact absurd h4 p0
      · exact h4
    · refine ⟨q * p, Int.mul_ne_zero q0 p0, fun j => ?_⟩
      simp only [E]
      rw [hq, hq, nbj, nbj, if_pos hld, if_pos hld]
      by_cases hj : j < w
      · rw [if_pos hj, if_pos hj, if_pos hj]
        have h9 := hp j
        rw [gz] at h9
        calc g b (keL kept s) * (q * g y j) - q * g y (keL kept s) * g b j = q * (g b (keL kept s) * g y j - g y (keL kept s) * g b j) := by grind
          _ = _ := by rw [h9, Int.mul_assoc]
      · rw [if_neg hj, if_neg hj, if_neg hj]; simp
    · have h3 : g z (keL kept t) = 0 := by
        rw [gz]
        by_cases e : t = s
        · subst e; grind
        · have h5 := K.tri s hs t (by omega)
          rw [nbj, if_pos (K.ld t (by omega))] at h5
          rw [C.tri t (by omega), h5]; simp
      rw [hp] at h3
      rcases Int.mul_eq_zero.mp h3 with h4 | h4
      · exact absurd h4 p0
      · exact h4
    · refine Nat.lt_of_le_of_lt (le i) ?_
      rw [gz, eb]
      have z1 := K.sz s hs
      rw [hb] at z1
      exact bits_step (z1 _) (C.sz _) (C.sz _) (z1 _)
  · rw [if_neg hh]
    have h0 : g y (keL kept s) = 0 := Classical.not_not.mp hh
    refine ⟨C.row, ?_, fun t ht => ?_, C.prim, fun i => mono_pow (C.sz i) (by omega)⟩
    · refine ⟨q * g b (keL kept s), Int.mul_ne_zero q0 hne, fun j => ?_⟩
      simp only [E]
      rw [hq, hq, nbj, nbj, if_pos hld, if_pos hld, h0]
      grind
    · by_cases e : t = s
      · subst e; exact h0
      · exact C.tri t (by omega)

theorem cleared_take (y : List Int) (kept : List (Nat × List Int)) {s : Nat} (hs : s < kept.length) :
    cleared y (kept.take (s + 1)) = clearOne (cleared y (kept.take s)) (keL kept s) (kept.getD s (0, [])).2 := by
  unfold cleared keL
  rw [List.take_add_one, List.getElem?_eq_getElem hs, List.foldl_append]
  simp [List.getD_eq_getElem?_getD, List.getElem?_eq_getElem hs]

theorem clear_all (K : KeptAt v w m kept) (hkm : kept.length < m) {y : List Int} (C : ClearAt v w m kept 0 y) : ∀ s, s ≤ kept.length → ClearAt v w m kept s (cleared y (kept.take s))
  | 0, _ => C
  | s + 1, h => by
    rw [cleared_take y kept (by omega)]
    exact clear_step K (by omega) hkm (clear_all K hkm C s (by omega))

/-- the beginning of a row: a vector and its mark -/
theorem clear_start (vec : List Int) (marks : List Int) (hw : vec.length = w) (hm : marks.length = m) (hkm : kept.length < m)
    (hv : ∀ j, j < w → g vec j = v kept.length j) (hz : ∀ j, w ≤ j → v kept.length j = 0) (hk : ∀ k, k < m → g marks k = if k = kept.length then 1 else 0)
    (sz : ∀ j, j < w → (v kept.length j).natAbs < 2 ^ (3 * kept.length + 3)) :
    ClearAt v w m kept 0 (vec ++ marks) := by
  have gm : ∀ k, k < m → g (vec ++ marks) (w + k) = if k = kept.length then 1 else 0 := fun k h => by rw [← hw, g_app_r, hk k h]
  have gv : ∀ j, j < w → g (vec ++ marks) j = v kept.length j := fun j h => by rw [g_app_l (by omega), hv j h]
  refine ⟨⟨by rw [List.length_append, hw, hm], fun j hj => ?_, ?_, fun k h1 h2 => ?_⟩, ⟨1, by decide, fun j => ?_⟩, fun t ht => by omega, fun d hd => ?_, fun i => ?_⟩
  · rw [gv j hj, sm_one (k := kept.length) hkm (fun i hi hne => by rw [gm i hi, if_neg hne, Int.zero_mul]), gm _ hkm, if_pos rfl, Int.one_mul]
  · rw [gm _ hkm, if_pos rfl]; decide
  · rw [gm k h2, if_neg (by omega)]
  · show v kept.length j = _
    by_cases hj : j < w
    · rw [if_pos hj, gv j hj, Int.one_mul]
    · rw [if_neg hj, hz j (by omega)]; rfl
  · have h1 := hd (w + kept.length) (by rw [List.length_append, hw, hm]; omega)
    rw [gm _ hkm, if_pos rfl] at h1
    have h2 : d ∣ 1 := by
      have := Int.ofNat_dvd_left.mp h1
      simpa using this
    exact Nat.dvd_one.mp h2
  · have e : cc kept.length 0 = 3 * kept.length + 3 := by unfold cc; omega
    rw [e]
    by_cases hi : i < w
    · rw [gv i hi]; exact sz i hi
    · by_cases h2 : i < w + m
      · have h3 := gm (i - w) (by omega)
        rw [show w + (i - w) = i by omega] at h3
        rw [h3]
        have : 1 ≤ 2 ^ (3 * kept.length) := Nat.one_le_two_pow
        have e3 : 2 ^ (3 * kept.length + 3) = 2 ^ (3 * kept.length) * 8 := by rw [Nat.pow_add]
        split <;> simp <;> omega
      · rw [g_ge (by rw [List.length_append, hw, hm]; omega)]
        exact Nat.two_pow_pos _

/-- a row that isn't nought is kept -/
theorem keep_more (K : KeptAt v w m kept) {y : List Int} (C : ClearAt v w m kept kept.length y) {l : Nat} (hl : l < w) (hn : g y l ≠ 0) : KeptAt v w m (kept ++ [(l, y)]) := by
  have old : ∀ k, k < kept.length → (kept ++ [(l, y)]).getD k (0, []) = kept.getD k (0, []) := fun k h => by
    rw [List.getD_eq_getElem?_getD, List.getElem?_append_left h, ← List.getD_eq_getElem?_getD]
  have new : (kept ++ [(l, y)]).getD kept.length (0, []) = (l, y) := by
    rw [List.getD_eq_getElem?_getD, List.getElem?_append_right (Nat.le_refl _)]; simp
  have oB : ∀ k, k < kept.length → ∀ j, keB w (kept ++ [(l, y)]) k j = keB w kept k j := fun k h j => by unfold keB; rw [old k h]
  have oL : ∀ k, k < kept.length → keL (kept ++ [(l, y)]) k = keL kept k := fun k h => by unfold keL; rw [old k h]
  have nB : ∀ j, keB w (kept ++ [(l, y)]) kept.length j = if j < w then g y j else 0 := fun j => by unfold keB; rw [new]
  have nL : keL (kept ++ [(l, y)]) kept.length = l := by unfold keL; rw [new]
  have oE : ∀ k, k ≤ kept.length → ∀ x j, E (keB w (kept ++ [(l, y)])) (keL (kept ++ [(l, y)])) k x j = E (keB w kept) (keL kept) k x j := fun k h =>
    E_cong k fun t ht => ⟨oB t (by omega), oL t (by omega)⟩
  have split : ∀ k, k < (kept ++ [(l, y)]).length → k < kept.length ∨ k = kept.length := fun k h => by
    rw [List.length_append] at h
    simp at h
    omega
  refine ⟨fun k h => ?_, fun k h => ?_, fun k h => ?_, fun k h s hs => ?_, fun k h => ?_, fun k h => ?_⟩ <;> rcases split k h with hk | hk
  · rw [old k hk]; exact K.row k hk
  · subst hk; rw [new]; exact C.row
  · rw [oL k hk]; exact K.ld k hk
  · subst hk; rw [nL]; exact hl
  · rw [oL k hk, oB k hk]; exact K.ne k hk
  · subst hk; rw [nL, nB, if_pos hl]; exact hn
  · rw [oL s (by omega), oB k hk]; exact K.tri k hk s hs
  · subst hk; rw [oL s hs, nB, if_pos (K.ld s hs)]; exact C.tri s hs
  · obtain ⟨q, q0, hq⟩ := K.of k hk
    exact ⟨q, q0, fun j => by rw [oE k (by omega), oB k hk]; exact hq j⟩
  · subst hk
    obtain ⟨q, q0, hq⟩ := C.of
    exact ⟨q, q0, fun j => by rw [oE _ (Nat.le_refl _), nB]; exact hq j⟩
  · rw [old k hk]; exact K.sz k hk
  · subst hk
    rw [new]
    intro i
    refine mono_pow (C.sz i) ?_
    unfold cc bb
    omega

theorem kept_nil : KeptAt v w m [] :=
  ⟨fun k h => by simp at h, fun k h => by simp at h, fun k h => by simp at h, fun k h => by simp at h, fun k h => by simp at h, fun k h => by simp at h⟩

theorem pigeon : ∀ (w n : Nat) (f : Nat → Nat), (∀ i, i < n → f i < w) → (∀ i j, i < j → j < n → f i ≠ f j) → n ≤ w
  | 0, n, f, h, _ => by
    rcases Nat.eq_zero_or_pos n with e | e
    · omega
    · have := h 0 e; omega
  | w + 1, 0, _, _, _ => by omega
  | w + 1, n + 1, f, h, inj => by
    have := pigeon w n (fun i => if f i = w then f n else f i) (fun i hi => by
      have h1 := h i (by omega)
      have h2 := h n (by omega)
      have h3 := inj i n hi (by omega)
      show (if f i = w then f n else f i) < w
      split <;> omega) (fun i j hij hj => by
      have h1 := inj i j hij (by omega)
      have h2 := inj i n (by omega) (by omega)
      have h3 := inj j n hj (by omega)
      show (if f i = w then f n else f i) ≠ (if f j = w then f n else f j)
      split <;> split <;> omega)
    omega

theorem KeptAt.few (K : KeptAt v w m kept) : kept.length ≤ w :=
  pigeon w kept.length (keL kept) K.ld fun i j hij hj e => by
    have h1 := K.tri j hj i hij
    rw [e] at h1
    exact K.ne j hj h1

theorem KeptAt.isKept (K : KeptAt v w m kept) (hkm : kept.length ≤ m) (hz : ∀ k, k < m → ∀ j, w ≤ j → v k j = 0) : Kept v kept.length (keB w kept) (keL kept) :=
  ⟨fun k hk => ⟨fun i => g (kept.getD k (0, [])).2 (w + i), fun j => by
    have R := K.row k hk
    have cut : ∀ j, sm m (fun i => g (kept.getD k (0, [])).2 (w + i) * v i j) = sm kept.length (fun i => g (kept.getD k (0, [])).2 (w + i) * v i j) := fun j =>
      sm_le hkm fun i h1 h2 => by rw [R.nil i (by omega) h2, Int.zero_mul]
    unfold keB
    by_cases hj : j < w
    · rw [if_pos hj, R.vec j hj, cut]
    · rw [if_neg hj, sm_zero fun i hi => by rw [hz i (by omega) j (by omega), Int.mul_zero]]⟩, K.ne, K.of⟩
end

/-! ### the tie -/
structure TieOK (v : Nat → Nat → Int) (w : Nat) (c : List Int) : Prop where
  len : c.length ≤ w
  goes : ∀ n j, v (n + c.length) j = sm c.length (fun i => g c i * v (n + i) j)
  sz : ∀ i, (g c i).natAbs < 2 ^ 7164

def tieOf (w t : Nat) (y : List Int) : List Int := (List.range t).map fun k => Int.fdiv (-(g y (w + k))) (g y (w + t))

theorem fdiv_unit {a b : Int} (h : b.natAbs = 1) : Int.fdiv a b = a * b := by
  rcases Int.natAbs_eq b with e | e <;> rw [h] at e
  · rw [e]; simp
  · rw [e]
    have : Int.fdiv a (-1) = -a := by
      rw [Int.fdiv_eq_ediv]
      simp
    simpa using this

theorem tie_found {v : Nat → Nat → Int} {w : Nat} {kept : List (Nat × List Int)} {y : List Int} (hw : w ≤ 10) (S : Shift v) (hz : ∀ k, k < w + 1 → ∀ j, w ≤ j → v k j = 0) (K : KeptAt v w (w + 1) kept)
    (hkm : kept.length < w + 1) (C : ClearAt v w (w + 1) kept kept.length y) (h0 : ∀ j, j < w → g y j = 0) : (g y (w + kept.length)).natAbs = 1 ∧ TieOK v w (tieOf w kept.length y) := by
  have R := C.row
  have cut : ∀ j, sm (w + 1) (fun k => g y (w + k) * v k j) = sm (kept.length + 1) (fun k => g y (w + k) * v k j) := fun j =>
    sm_le (by omega) fun i h1 h2 => by rw [R.nil i (by omega) h2, Int.zero_mul]
  have ha : ∀ j, sm (kept.length + 1) (fun k => g y (w + k) * v k j) = 0 := fun j => by
    by_cases hj : j < w
    · rw [← cut, ← R.vec j hj, h0 j hj]
    · exact sm_zero fun i hi => by rw [hz i (by omega) j (by omega), Int.mul_zero]
  have u := lead_unit (K.isKept (by omega) hz) S (a := fun k => g y (w + k)) ha R.own (fun d hd => C.prim d fun i hi => by
    rw [R.len] at hi
    by_cases h1 : i < w
    · rw [h0 i h1]; exact Int.dvd_zero _
    · by_cases h2 : i - w ≤ kept.length
      · have := hd (i - w) h2
        rwa [show w + (i - w) = i by omega] at this
      · have := R.nil (i - w) (by omega) (by omega)
        rw [show w + (i - w) = i by omega] at this
        rw [this]; exact Int.dvd_zero _)
  refine ⟨u, ?_, fun n j => ?_, fun i => ?_⟩
  · unfold tieOf; rw [List.length_map, List.length_range]; exact K.few
  · have hl : (tieOf w kept.length y).length = kept.length := by unfold tieOf; rw [List.length_map, List.length_range]
    have hs := S kept.length (fun k => g y (w + k)) ha n j
    simp only [sm] at hs
    rw [hl]
    have e1 : sm kept.length (fun i => g (tieOf w kept.length y) i * v (n + i) j) = -(g y (w + kept.length)) * sm kept.length (fun i => g y (w + i) * v (n + i) j) := by
      rw [← sm_mul]
      refine sm_congr fun i hi => ?_
      have e2 : g (tieOf w kept.length y) i = Int.fdiv (-(g y (w + i))) (g y (w + kept.length)) := by
        rw [g_lt (by rw [hl]; exact hi)]
        unfold tieOf
        rw [List.getElem_map, List.getElem_range]
      rw [e2, fdiv_unit u]
      grind
    rw [e1]
    have sq : g y (w + kept.length) * g y (w + kept.length) = 1 := by
      rcases Int.natAbs_eq (g y (w + kept.length)) with e | e <;> rw [u] at e <;> rw [e] <;> rfl
    have h3 : sm kept.length (fun i => g y (w + i) * v (n + i) j) = -(g y (w + kept.length) * v (n + kept.length) j) := by omega
    rw [h3]
    calc v (n + kept.length) j = (g y (w + kept.length) * g y (w + kept.length)) * v (n + kept.length) j := by rw [sq, Int.one_mul]
      _ = _ := by grind
  · by_cases hi : i < kept.length
    · have hl : (tieOf w kept.length y).length = kept.length := by unfold tieOf; rw [List.length_map, List.length_range]
      have e2 : g (tieOf w kept.length y) i = Int.fdiv (-(g y (w + i))) (g y (w + kept.length)) := by
        rw [g_lt (by rw [hl]; exact hi)]
        unfold tieOf
        rw [List.getElem_map, List.getElem_range]
      rw [e2, fdiv_unit u, Int.natAbs_mul, u, Nat.mul_one, Int.natAbs_neg]
      refine mono_pow (C.sz _) ?_
      have := K.few
      unfold cc
      have : 2 ^ kept.length ≤ 2 ^ 10 := Nat.pow_le_pow_right (by omega) (by omega)
      omega
    · rw [g_ge (by unfold tieOf; rw [List.length_map, List.length_range]; omega)]
      exact Nat.two_pow_pos _
end LG

/-! ## LGc -/
/-! Counts by a table, powers of it modulo a number, a tie unwound. Core Lean only. -/
namespace LG

theorem sum_sm (xs : List Int) : xs.sum = sm xs.length (g xs) := by
  induction xs with
  | nil => rfl
  | cons x xs ih =>
    rw [List.sum_cons, List.length_cons, sm_shift, ih]
    rfl

abbrev Mx := List (List Int)
def row (R : Mx) (i : Nat) : List Int := R.getD i []

/-- counts, one age on -/
def passed (R : Mx) (a : List Int) : List Int := (List.range a.length).map fun j => sm a.length fun t => g a t * g (row R t) j

theorem passed_len (R : Mx) (a : List Int) : (passed R a).length = a.length := by unfold passed; rw [List.length_map, List.length_range]

theorem g_passed (R : Mx) (a : List Int) {j : Nat} (h : j < a.length) : g (passed R a) j = sm a.length fun t => g a t * g (row R t) j := by
  rw [g_lt (by rw [passed_len]; exact h)]
  unfold passed
  rw [List.getElem_map, List.getElem_range]

def cnt (R : Mx) (a : List Int) : Nat → List Int
  | 0 => a
  | n + 1 => passed R (cnt R a n)

theorem cnt_len (R : Mx) (a : List Int) : ∀ n, (cnt R a n).length = a.length
  | 0 => rfl
  | n + 1 => by show (passed R _).length = _; rw [passed_len, cnt_len R a n]

/-- the same from the other end -/
theorem cnt_passed (R : Mx) (a : List Int) : ∀ n, cnt R (passed R a) n = cnt R a (n + 1)
  | 0 => rfl
  | n + 1 => by show passed R _ = passed R _; rw [cnt_passed R a n]

theorem g_cnt (R : Mx) (a : List Int) (n : Nat) {j : Nat} (h : j < a.length) : g (cnt R a (n + 1)) j = sm a.length fun t => g (cnt R a n) t * g (row R t) j := by
  show g (passed R _) j = _
  rw [g_passed _ _ (by rw [cnt_len]; exact h), cnt_len]

theorem shift_one (R : Mx) (a : List Int) : Shift fun n j => g (cnt R a n) j := by
  intro r c h n
  induction n with
  | zero => intro j; have := h j; simpa using this
  | succ n ih =>
    intro j
    by_cases hj : j < a.length
    · have e : sm (r + 1) (fun i => c i * g (cnt R a (n + 1 + i)) j) = sm a.length (fun t => sm (r + 1) (fun i => c i * g (cnt R a (n + i)) t) * g (row R t) j) := by
        have e1 : ∀ i, c i * g (cnt R a (n + 1 + i)) j = sm a.length fun t => c i * g (cnt R a (n + i)) t * g (row R t) j := fun i => by
          rw [show n + 1 + i = (n + i) + 1 by omega, g_cnt R a (n + i) hj, ← sm_mul]
          exact sm_congr fun t _ => by rw [Int.mul_assoc]
        rw [sm_congr fun i _ => e1 i, sm_swap]
        exact sm_congr fun t _ => by rw [sm_mul_right]
      rw [e]
      exact sm_zero fun t _ => by rw [ih t, Int.zero_mul]
    · exact sm_zero fun i _ => by
        show c i * g (cnt R a (n + 1 + i)) j = 0
        rw [g_ge (by rw [cnt_len]; omega), Int.mul_zero]

/-- two books side by side -/
def both (R : Mx) (a : List Int) (R' : Mx) (a' : List Int) (n j : Nat) : Int := g (cnt R a n ++ cnt R' a' n) j

theorem both_l {R R' : Mx} {a a' : List Int} {n j : Nat} (h : j < a.length) : both R a R' a' n j = g (cnt R a n) j := by
  unfold both; exact g_app_l (by rw [cnt_len]; exact h)
theorem both_r {R R' : Mx} {a a' : List Int} {n j : Nat} : both R a R' a' n (a.length + j) = g (cnt R' a' n) j := by
  unfold both
  have := g_app_r (xs := cnt R a n) (ys := cnt R' a' n) (i := j)
  rwa [cnt_len] at this
theorem both_ge {R R' : Mx} {a a' : List Int} {n j : Nat} (h : a.length + a'.length ≤ j) : both R a R' a' n j = 0 := by
  unfold both; exact g_ge (by rw [List.length_append, cnt_len, cnt_len]; exact h)

theorem shift_both (R : Mx) (a : List Int) (R' : Mx) (a' : List Int) : Shift (both R a R' a') := by
  intro r c h n j
  by_cases hj : j < a.length
  · rw [sm_congr fun i _ => by rw [both_l hj]]
    refine shift_one R a r c (fun j' => ?_) n j
    by_cases hj' : j' < a.length
    · rw [← h j']
      exact sm_congr fun i _ => by rw [both_l hj']
    · exact sm_zero fun i _ => by
        show c i * g (cnt R a i) j' = 0
        rw [g_ge (by rw [cnt_len]; omega), Int.mul_zero]
  · obtain ⟨t, rfl⟩ : ∃ t, j = a.length + t := ⟨j - a.length, by omega⟩
    rw [sm_congr fun i _ => by rw [both_r]]
    refine shift_one R' a' r c (fun j' => ?_) n t
    rw [← h (a.length + j')]
    exact sm_congr fun i _ => by rw [both_r]

/-- a sequence that goes by the tie -/
def Goes (c : List Int) (S : Nat → Int) : Prop := ∀ n, S (n + c.length) = sm c.length fun i => g c i * S (n + i)

theorem TieOK.left {R R' : Mx} {a a' c : List Int} (T : TieOK (both R a R' a') (a.length + a'.length) c) (wt : Nat → Int) (k : Nat) (hk : k ≤ a.length) : Goes c fun n => sm k fun j => wt j * g (cnt R a n) j := by
  intro n
  show sm k _ = _
  have e : ∀ i, g c i * sm k (fun j => wt j * g (cnt R a (n + i)) j) = sm k fun j => wt j * (g c i * both R a R' a' (n + i) j) := fun i => by
    rw [← sm_mul]
    exact sm_congr fun j hj => by rw [both_l (by omega)]; grind
  rw [sm_congr fun i _ => e i, sm_swap]
  exact sm_congr fun j hj => by rw [sm_mul, ← T.goes, both_l (by omega)]

theorem TieOK.right {R R' : Mx} {a a' c : List Int} (T : TieOK (both R a R' a') (a.length + a'.length) c) (wt : Nat → Int) (k : Nat) : Goes c fun n => sm k fun j => wt j * g (cnt R' a' n) j := by
  intro n
  show sm k _ = _
  have e : ∀ i, g c i * sm k (fun j => wt j * g (cnt R' a' (n + i)) j) = sm k fun j => wt j * (g c i * both R a R' a' (n + i) (a.length + j)) := fun i => by
    rw [← sm_mul]
    exact sm_congr fun j hj => by rw [both_r]; grind
  rw [sm_congr fun i _ => e i, sm_swap]
  exact sm_congr fun j hj => by rw [sm_mul, ← T.goes, both_r]

theorem Goes.alike {c : List Int} {S T : Nat → Int} (hS : Goes c S) (hT : Goes c T) {w : Nat} (hw : c.length ≤ w) (h : ∀ n, n < w → S n = T n) : ∀ n, S n = T n := by
  intro n
  induction n using Nat.strongRecOn with
  | _ n ih =>
    by_cases hn : n < c.length
    · exact h n (by omega)
    · have e1 := hS (n - c.length)
      have e2 := hT (n - c.length)
      rw [show n - c.length + c.length = n by omega] at e1 e2
      rw [e1, e2]
      exact sm_congr fun i hi => by rw [ih (n - c.length + i) (by omega)]

theorem sum_cnt (R : Mx) (a : List Int) (n : Nat) : (cnt R a n).sum = sm a.length fun j => 1 * g (cnt R a n) j := by
  rw [sum_sm, cnt_len]
  exact sm_congr fun j _ => by rw [Int.one_mul]

theorem lens_left {R R' : Mx} {a a' c : List Int} (T : TieOK (both R a R' a') (a.length + a'.length) c) : Goes c fun n => (cnt R a n).sum := by
  have := T.left (fun _ => 1) a.length (Nat.le_refl _)
  intro n
  simp only [sum_cnt]
  exact this n
theorem lens_right {R R' : Mx} {a a' c : List Int} (T : TieOK (both R a R' a') (a.length + a'.length) c) : Goes c fun n => (cnt R' a' n).sum := by
  have := T.right (fun _ => 1) a'.length
  intro n
  simp only [sum_cnt]
  exact this n

theorem at_left {R R' : Mx} {a a' c : List Int} (T : TieOK (both R a R' a') (a.length + a'.length) c) {j : Nat} (hj : j < a.length) : Goes c fun n => g (cnt R a n) j := by
  have := T.left (fun t => if t = j then 1 else 0) a.length (Nat.le_refl _)
  intro n
  have e : ∀ n, sm a.length (fun t => (if t = j then 1 else 0) * g (cnt R a n) t) = g (cnt R a n) j := fun n => by
    rw [sm_one (k := j) hj (fun i _ hne => by rw [if_neg hne, Int.zero_mul]), if_pos rfl, Int.one_mul]
  have h := this n
  simp only [e] at h
  exact h
theorem at_right {R R' : Mx} {a a' c : List Int} (T : TieOK (both R a R' a') (a.length + a'.length) c) {j : Nat} (hj : j < a'.length) : Goes c fun n => g (cnt R' a' n) j := by
  have := T.right (fun t => if t = j then 1 else 0) a'.length
  intro n
  have e : ∀ n, sm a'.length (fun t => (if t = j then 1 else 0) * g (cnt R' a' n) t) = g (cnt R' a' n) j := fun n => by
    rw [sm_one (k := j) hj (fun i _ hne => by rw [if_neg hne, Int.zero_mul]), if_pos rfl, Int.one_mul]
  have h := this n
  simp only [e] at h
  exact h
theorem zero_goes (c : List Int) : Goes c fun _ => 0 := fun n => by
  show (0 : Int) = _
  exact (sm_zero fun i _ => Int.mul_zero _).symm

/-! ### modulo a number -/
theorem sm_emod (n : Nat) (N : Int) {f h : Nat → Int} (e : ∀ i, i < n → f i % N = h i % N) : sm n f % N = sm n h % N := by
  induction n with
  | zero => rfl
  | succ n ih =>
    simp only [sm]
    rw [Int.add_emod, ih (fun i hi => e i (by omega)), e n (by omega), ← Int.add_emod]

def Cong (N : Int) (a b : List Int) : Prop := a.length = b.length ∧ ∀ i, i < a.length → g a i % N = g b i % N
def CongM (N : Int) (k : Nat) (R R' : Mx) : Prop := ∀ t j, t < k → j < k → g (row R t) j % N = g (row R' t) j % N

theorem Cong.rfl' {N : Int} {a : List Int} : Cong N a a := ⟨rfl, fun _ _ => rfl⟩
theorem Cong.trans {N : Int} {a b c : List Int} (h : Cong N a b) (h' : Cong N b c) : Cong N a c :=
  ⟨h.1.trans h'.1, fun i hi => (h.2 i hi).trans (h'.2 i (by rw [← h.1]; exact hi))⟩

theorem mul_cong {N a b c d : Int} (h : a % N = b % N) (h' : c % N = d % N) : a * c % N = b * d % N := by
  rw [Int.mul_emod, h, h', ← Int.mul_emod]

theorem Cong.passed {N : Int} {a b : List Int} {R R' : Mx} (h : Cong N a b) (hR : CongM N a.length R R') : Cong N (passed R a) (passed R' b) := by
  refine ⟨by rw [passed_len, passed_len]; exact h.1, fun i hi => ?_⟩
  rw [passed_len] at hi
  rw [g_passed R a hi, g_passed R' b (by rw [← h.1]; exact hi), ← h.1]
  exact sm_emod _ _ fun t ht => mul_cong (h.2 t ht) (hR t i ht hi)

theorem Cong.cnt {N : Int} {a b : List Int} {R R' : Mx} (h : Cong N a b) (hR : CongM N a.length R R') : ∀ n, Cong N (cnt R a n) (cnt R' b n)
  | 0 => h
  | n + 1 => (Cong.cnt h hR n).passed (by rw [cnt_len]; exact hR)

/-- modulo the number, entry by entry -/
def md (N : Int) (a : List Int) : List Int := a.map (· % N)
theorem md_len (N : Int) (a : List Int) : (md N a).length = a.length := List.length_map _
theorem g_md (N : Int) (a : List Int) {i : Nat} (h : i < a.length) : g (md N a) i = g a i % N := g_map h
theorem md_cong (N : Int) (a : List Int) : Cong N (md N a) a := ⟨md_len N a, fun i hi => by
  rw [md_len] at hi
  rw [g_md N a hi, Int.emod_emod_of_dvd _ (Int.dvd_refl N)]⟩

def led (N : Int) (a : List Int) (R : Mx) : List Int := md N (passed R a)
def laid (N : Int) (A R : Mx) : Mx := A.map fun a => led N a R

/-- the table twice -/
def sq (R : Mx) : Mx := R.map fun a => passed R a

theorem row_map {R : Mx} {f : List Int → List Int} {t : Nat} (h : t < R.length) : row (R.map f) t = f (row R t) := by
  unfold row
  rw [List.getD_eq_getElem?_getD, List.getD_eq_getElem?_getD, List.getElem?_map, List.getElem?_eq_getElem h]
  rfl

/-- a square table -/
def Sqr (k : Nat) (R : Mx) : Prop := R.length = k ∧ ∀ t, t < k → (row R t).length = k

theorem sq_passed {k : Nat} {R : Mx} (h : Sqr k R) {a : List Int} (ha : a.length = k) : passed (sq R) a = passed R (passed R a) := by
  refine ext_g (by rw [passed_len, passed_len, passed_len]) fun j hj => ?_
  rw [passed_len] at hj
  rw [g_passed _ _ hj, g_passed _ _ (by rw [passed_len]; exact hj), passed_len]
  have e1 : ∀ t, t < a.length → g a t * g (row (sq R) t) j = sm a.length fun s => g a t * g (row R t) s * g (row R s) j := fun t ht => by
    unfold sq
    rw [row_map (by rw [h.1]; omega), g_passed _ _ (by rw [h.2 t (by omega)]; omega), h.2 t (by omega), ← ha, ← sm_mul]
    exact sm_congr fun s _ => by rw [Int.mul_assoc]
  rw [sm_congr e1, sm_swap]
  refine sm_congr fun s hs => ?_
  rw [g_passed R a hs, sm_mul_right]

theorem sq_cnt {k : Nat} {R : Mx} (h : Sqr k R) {a : List Int} (ha : a.length = k) : ∀ n, cnt (sq R) a n = cnt R a (2 * n)
  | 0 => rfl
  | n + 1 => by
    show passed (sq R) (cnt (sq R) a n) = _
    rw [sq_passed h (by rw [cnt_len]; exact ha), sq_cnt h ha n, show 2 * (n + 1) = 2 * n + 1 + 1 by omega]
    rfl

theorem laid_cong {N : Int} {k : Nat} {R : Mx} (h : Sqr k R) : CongM N k (laid N R R) (sq R) := fun t j ht hj => by
  unfold laid sq led
  rw [row_map (by rw [h.1]; exact ht), row_map (by rw [h.1]; exact ht)]
  exact (md_cong N _).2 j (by rw [md_len, passed_len, h.2 t ht]; exact hj)

theorem laid_sqr {N : Int} {k : Nat} {R : Mx} (h : Sqr k R) : Sqr k (laid N R R) :=
  ⟨by unfold laid; rw [List.length_map]; exact h.1, fun t ht => by
    unfold laid led
    rw [row_map (by rw [h.1]; exact ht), md_len, passed_len]
    exact h.2 t ht⟩

/-- one turn of the powering -/
theorem pow_turn {N : Int} {k : Nat} {R : Mx} (h : Sqr k R) {f : List Int} (hf : f.length = k) (q b : Nat) (f' : List Int) (hf' : Cong N f' (cnt R f b)) :
    Cong N (cnt (laid N R R) f' q) (cnt R f (2 * q + b)) := by
  have e : ∀ b, cnt R (cnt R f b) (2 * q) = cnt R f (2 * q + b) := by
    intro b
    generalize 2 * q = m
    induction m with
    | zero => rw [Nat.zero_add]; rfl
    | succ m ih => show passed R _ = _; rw [ih, show m + 1 + b = (m + b) + 1 by omega]; rfl
  rw [← e b, ← sq_cnt h (by rw [cnt_len]; exact hf)]
  refine Cong.cnt hf' ?_ q
  rw [hf'.1, cnt_len, hf]
  exact laid_cong h

theorem md_of_cong {N : Int} {a b : List Int} (h : Cong N a b) (hr : ∀ i, i < a.length → g a i % N = g a i) : a = md N b :=
  ext_g (by rw [md_len]; exact h.1) fun i hi => by rw [g_md N b (by rw [← h.1]; exact hi), ← h.2 i hi, hr i hi]

theorem sum_emod (N : Int) : ∀ a : List Int, (md N a).sum % N = a.sum % N
  | [] => rfl
  | x :: xs => by
    show (x % N + (md N xs).sum) % N = (x + xs.sum) % N
    rw [Int.add_emod, sum_emod N xs, Int.emod_emod_of_dvd _ (Int.dvd_refl N), ← Int.add_emod]

/-! ### a tie unwound -/
/-- parts tell the numbers f by the next numbers of S -/
def Rep (N : Int) (S : Nat → Int) (r : Nat) (p : List Int) (f : Nat → Int) : Prop := p.length = r ∧ ∀ n, (sm r fun i => g p i * S (n + i)) % N = f n % N

def stepped (N : Int) (c p : List Int) : List Int := List.zipWith (fun a b => (a + g p (p.length - 1) * b) % N) (0 :: p.take (p.length - 1)) c

theorem g_stepped {N : Int} {c p : List Int} (h : p.length = c.length) (h0 : 0 < p.length) {i : Nat} (hi : i < p.length) :
    g (stepped N c p) i = ((if i = 0 then 0 else g p (i - 1)) + g p (p.length - 1) * g c i) % N := by
  unfold stepped
  rw [g_zip (by rw [List.length_cons, List.length_take]; omega) (by omega)]
  congr 2
  by_cases e : i = 0
  · subst e; rfl
  · rw [if_neg e]
    obtain ⟨t, rfl⟩ : ∃ t, i = t + 1 := ⟨i - 1, by omega⟩
    unfold g
    rw [List.getD_eq_getElem?_getD, List.getD_eq_getElem?_getD, List.getElem?_cons_succ, List.getElem?_take, if_pos (by omega)]
    rfl

theorem stepped_len {N : Int} {c p : List Int} (h : p.length = c.length) (h0 : 0 < p.length) : (stepped N c p).length = p.length := by
  unfold stepped
  rw [List.length_zipWith, List.length_cons, List.length_take]
  omega

theorem Rep.step {N : Int} {S : Nat → Int} {c p : List Int} {f : Nat → Int} (hS : Goes c S) (h0 : 0 < c.length) (h : Rep N S c.length p f) :
    Rep N S c.length (stepped N c p) fun n => f (n + 1) := by
  obtain ⟨hl, hr⟩ := h
  refine ⟨by rw [stepped_len hl (by omega)]; exact hl, fun n => ?_⟩
  show _ = f (n + 1) % N
  rw [← hr (n + 1)]
  have e1 : sm c.length (fun i => g (stepped N c p) i * S (n + i)) % N
      = sm c.length (fun i => ((if i = 0 then 0 else g p (i - 1)) * S (n + i) + g p (p.length - 1) * (g c i * S (n + i)))) % N := by
    refine sm_emod _ _ fun i hi => ?_
    rw [g_stepped hl (by omega) (by omega)]
    have : ((if i = 0 then 0 else g p (i - 1)) * S (n + i) + g p (p.length - 1) * (g c i * S (n + i))) = ((if i = 0 then 0 else g p (i - 1)) + g p (p.length - 1) * g c i) * S (n + i) := by grind
    rw [this]
    exact mul_cong (Int.emod_emod_of_dvd _ (Int.dvd_refl N)) rfl
  rw [e1, sm_add, sm_mul, ← hS n]
  obtain ⟨k, hk⟩ : ∃ k, c.length = k + 1 := ⟨c.length - 1, by omega⟩
  rw [hl, hk, sm_shift, if_pos rfl, Int.zero_mul, Int.zero_add, Nat.add_sub_cancel]
  have e2 : sm k (fun i => (if i + 1 = 0 then 0 else g p (i + 1 - 1)) * S (n + (i + 1))) = sm k fun i => g p i * S (n + 1 + i) :=
    sm_congr fun i _ => by rw [if_neg (by omega), Nat.add_sub_cancel, show n + (i + 1) = n + 1 + i by omega]
  rw [e2, show n + (k + 1) = n + 1 + k by omega]
  rfl

def addMul (N : Int) (x : Int) (f p : List Int) : List Int := List.zipWith (fun a b => (a + x * b) % N) f p

theorem Rep.addMul {N : Int} {S : Nat → Int} {r : Nat} {p q : List Int} {f h : Nat → Int} (x : Int) (hp : Rep N S r p f) (hq : Rep N S r q h) :
    Rep N S r (addMul N x p q) fun n => f n + x * h n := by
  refine ⟨by unfold LG.addMul; rw [List.length_zipWith, hp.1, hq.1, Nat.min_self], fun n => ?_⟩
  have e1 : sm r (fun i => g (LG.addMul N x p q) i * S (n + i)) % N = sm r (fun i => (g p i * S (n + i) + x * (g q i * S (n + i)))) % N := by
    refine sm_emod _ _ fun i hi => ?_
    unfold LG.addMul
    rw [g_zip (by rw [hp.1]; exact hi) (by rw [hq.1]; exact hi)]
    have : g p i * S (n + i) + x * (g q i * S (n + i)) = (g p i + x * g q i) * S (n + i) := by grind
    rw [this]
    exact mul_cong (Int.emod_emod_of_dvd _ (Int.dvd_refl N)) rfl
  rw [e1, sm_add, sm_mul, Int.add_emod, hp.2 n, Int.mul_emod, hq.2 n, ← Int.mul_emod, ← Int.add_emod]

/-- a turn of the doubling: t parts are still to come -/
def joinSeq (p : List Int) (f : Nat → Int) (r t : Nat) (n : Nat) : Int := sm (r - t) fun i => g p (t + i) * f (n + i)

theorem join_start {N : Int} {S : Nat → Int} {r : Nat} {p : List Int} {f : Nat → Int} : Rep N S r (List.replicate r 0) (joinSeq p f r r) :=
  ⟨List.length_replicate, fun n => by
    unfold joinSeq
    rw [Nat.sub_self]
    rw [sm_zero]
    · rfl
    · intro i hi
      rw [g_lt (by rw [List.length_replicate]; exact hi), List.getElem_replicate, Int.zero_mul]⟩

theorem join_turn {N : Int} {S : Nat → Int} {c p q : List Int} {f : Nat → Int} {t : Nat} (hS : Goes c S) (ht : t < c.length) (hp : Rep N S c.length p f)
    (h : Rep N S c.length q (joinSeq p f c.length (t + 1))) : Rep N S c.length (addMul N (g p t) (stepped N c q) p) (joinSeq p f c.length t) := by
  have h1 := (h.step hS (by omega)).addMul (g p t) hp
  refine ⟨h1.1, fun n => ?_⟩
  rw [h1.2 n]
  congr 1
  unfold joinSeq
  rw [show c.length - t = (c.length - (t + 1)) + 1 by omega, sm_shift, Nat.add_zero, Nat.add_zero]
  show sm _ _ + g p t * f n = _
  have e2 : sm (c.length - (t + 1)) (fun i => g p (t + 1 + i) * f (n + 1 + i)) = sm (c.length - (t + 1)) fun i => g p (t + (i + 1)) * f (n + (i + 1)) :=
    sm_congr fun i _ => by rw [show t + 1 + i = t + (i + 1) by omega, show n + 1 + i = n + (i + 1) by omega]
  rw [e2, Int.add_comm]
  rfl

theorem join_end {N : Int} {S : Nat → Int} {r : Nat} {p q : List Int} {e : Nat} (hp : Rep N S r p fun n => S (n + e)) (h : Rep N S r q (joinSeq p (fun n => S (n + e)) r 0)) :
    Rep N S r q fun n => S (n + 2 * e) := by
  refine ⟨h.1, fun n => ?_⟩
  rw [h.2 n]
  unfold joinSeq
  rw [Nat.sub_zero]
  have h2 := hp.2 (n + e)
  simp only at h2
  rw [show n + e + e = n + 2 * e by omega] at h2
  rw [← h2]
  congr 1
  exact sm_congr fun i _ => by
    show g p (0 + i) * S (n + i + e) = _
    rw [show 0 + i = i by omega, show n + i + e = n + e + i by omega]

theorem rep_one {N : Int} {S : Nat → Int} {r : Nat} {p : List Int} (hl : p.length = r) (h0 : 0 < r) (hp : ∀ i, i < r → g p i = if i = 0 then 1 else 0) : Rep N S r p fun n => S (n + 0) :=
  ⟨hl, fun n => by
    rw [sm_one (k := 0) h0 (fun i hi hne => by rw [hp i hi, if_neg hne, Int.zero_mul]), hp 0 h0, if_pos rfl, Int.one_mul]⟩

/-- bits, the least one first, and what is left of them -/
def bval : List Int → Int → Int
  | [], r => r
  | b :: bs, r => b + 2 * bval bs r
theorem bval_snoc (b r : Int) : ∀ bs, bval (bs ++ [b]) r = bval bs (b + 2 * r)
  | [] => rfl
  | x :: bs => by show x + 2 * bval (bs ++ [b]) r = _; rw [bval_snoc b r bs]; rfl
end LG

/-! ## LGpre -/
set_option maxRecDepth 100000
/-! What all walks share. -/
namespace LG
open PySem PySem.Spec PyProof.Rows L2

def topS (i : Nat) : Stmt := PySem.Challenge.pw_linegrow_k48_whole_alike_for_ever.main.body.getD i (.Pass ⟨0, 0, 0, 0⟩)

abbrev iv (ns : List Int) : List V := ns.map V.int

/-- what is built in is still so -/
structure Bi (mg : Str → Option Value) : Prop where
  len : mg "len" = none
  range : mg "range" = none
  enumerate : mg "enumerate" = none
  zip : mg "zip" = none
  sum : mg "sum" = none
  isinstance : mg "isinstance" = none
  int : mg "int" = none
  bool : mg "bool" = none
  str : mg "str" = none
  list : mg "list" = none
  tuple : mg "tuple" = none
  sorted : mg "sorted" = none
  set : mg "set" = none
  min : mg "min" = none
  reversed : mg "reversed" = none
  abs : mg "abs" = none

/-- a def that keeps its promise, and how it is called -/
structure Cal (P : Program) (w : World) (K : PySem.W.Frag) (mg : Str → Option Value) (base : Heap) (x : Str) (ps : List Str) (sp : Sp) (k : Nat) : Prop where
  ex : ∃ (f : Addr) (fd : FuncData), FnOk P w K mg base CX0 k f fd ps sp ∧ mg x = some (.ref f) ∧ PySem.W.keepIn K (.ref f) = true ∧ Binds K fd ps []

theorem pe_cal {X : Cx} {x : Str} {ps : List Str} {sp : Sp} {k j : Nat} {e : Expr} {es : List Expr} {t : TA} {p pos : Pos} (C : Cal X.prog X.w X.K X.mg X.base x ps sp k) (hr : Room j X.A) (hkj : k ≤ j) (ha : PA X (e :: es) t)
    (hg : Gl X x := by rfl) (hdb : (x == ("__debug__" : Str)) = false := by decide) (he : starEach (e :: es) X.env = (false, eval e X.env) :: starEach es X.env := by rfl) (hpl : (backTo pos (starEach es X.env)).any (·.1) = false := by rfl) :
    PE X (.Call (.Name x p) (e :: es) [] pos) (tCall sp [] E0 t) := by
  obtain ⟨f, fd, h1, h2, h3, h4⟩ := C.ex
  exact pe_call h1 (hr.mono hkj) hg h2 h3 h4 .nil pass0 ha hdb he hpl

theorem same_upd {H : Hp} {p : Addr} {o : HO} (h : H p = none) : Same H (upd H p o) := fun b x e => by
  rw [upd_ne (ne_of_none e h)]
  exact e

/-- all but what stands at a is as it was -/
def SameX (a : Addr) (H H' : Hp) : Prop := ∀ b o, b ≠ a → H b = some o → H' b = some o
theorem SameX.refl (a : Addr) (H : Hp) : SameX a H H := fun _ _ _ h => h
theorem SameX.trans {a : Addr} {H H1 H2 : Hp} (x : SameX a H H1) (y : SameX a H1 H2) : SameX a H H2 := fun b o n h => y b o n (x b o n h)
theorem _root_.L2.Same.toX {a : Addr} {H H' : Hp} (x : Same H H') : SameX a H H' := fun b o _ h => x b o h
theorem sameX_upd {a : Addr} {H : Hp} {o : HO} : SameX a H (upd H a o) := fun b x n e => by
  rw [upd_ne n]; exact e

/-- a new list of iv is handed back -/
def RetL (Q : VK) (H : Hp) (ns : List Int) : Prop := ∀ (H' : Hp) (p : Addr), Same H H' → H p = none → H' p = some (.lst (iv ns)) → Q (.ref p) H'

theorem sz_le {n : Nat} (h : n ≤ 1000000) : n ≤ sizeLine := Nat.le_trans h (by decide)
theorem sz_lt {n : Nat} (h : n ≤ 1000000) : n < sizeLine := Nat.lt_of_le_of_lt h (by decide)

theorem iv_get {ns : List Int} {i : Nat} {x : V} (h : (iv ns)[i]? = some x) : i < ns.length ∧ x = .int (g ns i) := by
  rw [List.getElem?_map] at h
  cases e : ns[i]? with
  | none => rw [e] at h; cases h
  | some y =>
    rw [e] at h
    have hi : i < ns.length := by
      rcases List.getElem?_eq_some_iff.mp e with ⟨hi, _⟩
      exact hi
    refine ⟨hi, ?_⟩
    rw [g_some e]
    exact (Option.some.inj h).symm
theorem get_iv {ns : List Int} {i : Nat} (h : i < ns.length) : (iv ns)[i]? = some (.int (g ns i)) := by
  rw [List.getElem?_map, some_g h]; rfl
theorem iv_len (ns : List Int) : (iv ns).length = ns.length := List.length_map _
theorem iv_snoc (ns : List Int) (x : Int) : iv ns ++ [.int x] = iv (ns ++ [x]) := by
  show ns.map V.int ++ [V.int x] = (ns ++ [x]).map V.int
  rw [List.map_append]; rfl

theorem yes_ok {te : TE} {R : V → Hp → Prop} {N : Hp → Prop} {σ : L2.St} {H : Hp} (h : te σ H R) : tYes σ H fun b H3 => if b = true then te σ H3 R else N H3 := by
  show if true = true then te σ H R else N H
  rw [if_pos rfl]
  exact h
def natOf : Option (Option V) → Nat
  | some (some (V.int i)) => i.natAbs
  | _ => 0
/-! ### comprehensions whose elements change nothing that stood -/
theorem lc_acc {J : It} {n : Nat} {G : Hp → Prop} {Y : Nat → Hp → V → Hp → Prop} (wk : Walk J n G Y) {g : TG} {te : TE} {vs : List Nat} {σ : L2.St} {H1 : Hp} {D : Addr} {Qd : Hp → Prop} (nD : H1 D = none) (hn : n ≤ 1000000)
    (A : Nat → V → Hp → Prop) (hA : ∀ i y H H', A i y H → SameX D H H' → A i y H') (hG : ∀ H, Same H1 H → G H)
    (hs : ∀ i x H H', i < n → Same H1 H → (∃ o, H D = some o) → Y i H x H' → ∀ (R : V → Hp → Prop) (N : Hp → Prop), (∀ y H4, Same H H4 → A i y H4 → R y H4) →
      g x (wipe σ vs) H' fun σ2 H2 => wipe σ2 vs = wipe σ vs ∧ tYes σ2 H2 fun b H3 => if b = true then te σ2 H3 R else N H3)
    (hd : ∀ H ys, Same H1 H → H D = some (.lst ys) → ys.length = n → (∀ i y, ys[i]? = some y → A i y H) → Qd H) :
    ∃ W : Nat → Nat → Hp → Prop, (∃ m, W 0 m (upd H1 D (.lst []))) ∧ ∀ i m H, W i m H →
      (J.stop i H ∧ Qd H) ∨ (J.go i H ∧ ∃ Nx : Hp → Prop, (∀ H', Nx H' → ∃ m', m' < m ∧ W (i + 1) m' H') ∧ ∀ x H', J.yld i H x H' → g x (wipe σ vs) H' fun σ2 H2 => wipe σ2 vs = wipe σ vs ∧ tYes σ2 H2 fun b H3 =>
        if b = true then te σ2 H3 fun y H4 => ∃ acc, H4 D = some (.lst acc) ∧ acc.length < sizeLine ∧ Nx (upd H4 D (.lst (acc ++ [y]))) else Nx H3) := by
  refine lc_it wk (fun i H => Same H1 H ∧ ∃ acc, H D = some (.lst acc) ∧ acc.length = i ∧ ∀ j y, acc[j]? = some y → A j y H) ⟨same_upd nD, [], upd_same, rfl, fun j y h => by simp at h⟩ (fun i H _ p => hG H p.1) (fun i x H H' hi p y => ?_) (fun H p => ?_)
  · obtain ⟨sm, acc, hD, hl, hacc⟩ := p
    refine hs i x H H' hi sm ⟨_, hD⟩ y _ _ (fun z H4 q1 q2 => ?_)
    refine ⟨acc, q1 _ _ hD, sz_lt (by omega), ?_, acc ++ [z], upd_same, by rw [List.length_append, hl]; rfl, fun j u hj => ?_⟩
    · intro b o hb
      have nb : b ≠ D := ne_of_none hb nD
      rw [upd_ne nb]
      exact q1 _ _ (sm _ _ hb)
    · by_cases hj2 : j < acc.length
      · rw [List.getElem?_append_left hj2] at hj
        exact hA j u _ _ (hA j u _ _ (hacc j u hj) (Same.toX q1)) sameX_upd
      · have e : j = acc.length := by
          rcases List.getElem?_eq_some_iff.mp hj with ⟨h1, _⟩
          rw [List.length_append] at h1
          simp at h1
          omega
        subst e
        rw [List.getElem?_append_right (Nat.le_refl _), Nat.sub_self] at hj
        have e2 : z = u := by simpa using hj
        subst e2
        rw [hl]
        exact hA i z _ _ q2 sameX_upd
  · obtain ⟨sm, acc, hD, hl, hacc⟩ := p
    exact hd H acc sm hD hl hacc

theorem g_set {xs : List Int} {i : Nat} {v : Int} (h : i < xs.length) (j : Nat) : g (xs.set i v) j = if i = j then v else g xs j := by
  unfold g
  rw [List.getD_eq_getElem?_getD, List.getD_eq_getElem?_getD, List.getElem?_set]
  by_cases e : i = j
  · rw [if_pos e, if_pos e, if_pos h]; rfl
  · rw [if_neg e, if_neg e]
theorem iv_set (xs : List Int) (i : Nat) (v : Int) : (iv xs).set i (.int v) = iv (xs.set i v) := by
  show (xs.map V.int).set i (V.int v) = (xs.set i v).map V.int
  rw [List.map_set]
theorem iv_rep {n : Nat} {v : Int} {ys : List V} (hl : ys.length = n) (h : ∀ (i : Nat) (y : V), ys[i]? = some y → y = .int v) : ys = iv (List.replicate n v) := by
  refine List.ext_getElem? fun i => ?_
  by_cases hi : i < ys.length
  · rw [List.getElem?_eq_getElem hi, h i _ (List.getElem?_eq_getElem hi)]
    rw [get_iv (by rw [List.length_replicate]; omega), g_lt (by rw [List.length_replicate]; omega), List.getElem_replicate]
  · rw [List.getElem?_eq_none (by omega), List.getElem?_eq_none (by rw [iv_len, List.length_replicate]; omega)]
theorem iv_of {n : Nat} {f : Nat → Int} {ys : List V} (hl : ys.length = n) (h : ∀ (i : Nat) (y : V), ys[i]? = some y → y = .int (f i)) {zs : List Int} (hz : zs.length = n) (hg : ∀ i, i < n → g zs i = f i) : ys = iv zs := by
  refine List.ext_getElem? fun i => ?_
  by_cases hi : i < ys.length
  · rw [List.getElem?_eq_getElem hi, h i _ (List.getElem?_eq_getElem hi), get_iv (by omega), hg i (by omega)]
  · rw [List.getElem?_eq_none (by omega), List.getElem?_eq_none (by rw [iv_len]; omega)]
theorem ixN_nat {n i : Nat} (h : i < n) : ixN n (i : Int) = some i := by
  unfold ixN
  rw [if_pos (by omega), if_pos (by omega)]
  rfl
theorem atI_iv {xs : List Int} {i : Nat} (h : i < xs.length) : atI (iv xs) (i : Int) = some (.int (g xs i)) := atI_nat (get_iv h)

def rLenSeq (K : PySem.W.Frag) : List V → Hp → VK → Prop := fun xs H Q => ∃ p ys, xs = [.ref p] ∧ (SqL K H p ys ∨ SqT K H p ys) ∧ Q (.int ys.length) H
/-- a list of ints to be read -/
def RetS (K : PySem.W.Frag) (Q : VK) (H : Hp) (ns : List Int) : Prop := ∀ (H' : Hp) (p : Addr), Same H H' → SqL K H' p (iv ns) → Q (.ref p) H'
/-- the same, and it is the argument itself or new -/
def RetF (K : PySem.W.Frag) (Q : VK) (H : Hp) (a : Addr) (ns : List Int) : Prop := ∀ (H' : Hp) (p : Addr), Same H H' → (p = a ∨ H p = none) → SqL K H' p (iv ns) → Q (.ref p) H'
def Bits (e : Nat) (xs : List Int) : Prop := ∀ i, (g xs i).natAbs < 2 ^ e
def BitsM (e : Nat) (R : Mx) : Prop := ∀ i, Bits e (row R i)
theorem Bits.mono {e e' : Nat} {xs : List Int} (h : Bits e xs) (l : e ≤ e') : Bits e' xs := fun i => mono_pow (h i) l

/-! ### books -/
def sOf (l : List Nat) : Str := ⟨l.toArray⟩
theorem sOf_len (l : List Nat) : (sOf l).length = l.length := by
  unfold sOf Str.length; simp
theorem tl_sOf (l : List Nat) : TL.tl (sOf l) = l := by unfold sOf TL.tl; simp

structure Bk where
  first : List Nat
  rules : List (Nat × List Nat)
abbrev Bk.sg (b : Bk) : List Nat := b.rules.map (·.1)

theorem _root_.L2.Same.seqT {K : PySem.W.Frag} {H H' : Hp} {a : Addr} {xs : List V} (e : Same H H') (h : SqT K H a xs) : SqT K H' a xs := by
  rcases h with (h | ⟨o, h⟩) | h
  · exact .inl (.inl (e _ _ h))
  · exact .inl (.inr ⟨o, e _ _ h⟩)
  · exact .inr h

def BookAt (K : PySem.W.Frag) (H : Hp) (a : Addr) (b : Bk) : Prop := ∃ (t : Addr) (rs : List Addr), SqT K H a [.str (sOf b.first), .ref t] ∧ SqT K H t (rs.map V.ref) ∧ rs.length = b.rules.length ∧
  ∀ (i : Nat) (r : Addr), rs[i]? = some r → ∃ q : Nat × List Nat, b.rules[i]? = some q ∧ SqT K H r [.str (sOf [q.1]), .str (sOf q.2)]
theorem _root_.L2.Same.book {K : PySem.W.Frag} {H H' : Hp} {a : Addr} {b : Bk} (e : Same H H') (h : BookAt K H a b) : BookAt K H' a b := by
  obtain ⟨t, rs, h1, h2, h3, h4⟩ := h
  exact ⟨t, rs, e.seqT h1, e.seqT h2, h3, fun i r hr => by
    obtain ⟨q, q1, q2⟩ := h4 i r hr
    exact ⟨q, q1, e.seqT q2⟩⟩
/-- how often a sign stands in a text -/
def cntT (t : List Nat) (c : Nat) : Int := Txt.count (sOf t) (sOf [c])
theorem cntT_bound (t : List Nat) (c : Nat) : 0 ≤ cntT t c ∧ cntT t c ≤ t.length + 1 := by
  unfold cntT Txt.count
  have := StrLaws.occ_length_le (sOf t) (sOf [c]) 0 (sOf t).length ((sOf t).length + 1)
  rw [sOf_len] at *
  omega
def tallyV (l t : List Nat) : List Int := l.map (cntT t)
def Bk.rates (b : Bk) : Mx := b.rules.map fun q => tallyV b.sg q.2
def Bk.start (b : Bk) : List Int := tallyV b.sg b.first
abbrev Bk.k (b : Bk) : Nat := b.rules.length

theorem join_sings (l : List Nat) : Txt.join (sOf []) (l.map fun c => sOf [c]) = sOf l := by
  rw [TL.join_eq]
  refine TL.ext_tl ?_
  rw [TL.tl_join, tl_sOf, tl_sOf, List.map_map]
  induction l with
  | nil => rfl
  | cons c r ih =>
    cases r with
    | nil => rfl
    | cons d r => 
      show [c] ++ ([] ++ TL.joinL [] _) = _
      rw [List.nil_append]
      exact congrArg (c :: ·) ih

/-- a list of lists of ints -/
def MI (K : PySem.W.Frag) (H : Hp) (a : Addr) (R : Mx) : Prop := ∃ as : List Addr, SqL K H a (as.map V.ref) ∧ as.length = R.length ∧ ∀ (i : Nat) (p : Addr), as[i]? = some p → SqL K H p (iv (row R i))
theorem _root_.L2.Same.mi {K : PySem.W.Frag} {H H' : Hp} {a : Addr} {R : Mx} (e : Same H H') (h : MI K H a R) : MI K H' a R := by
  obtain ⟨as, h1, h2, h3⟩ := h
  exact ⟨as, e.seq h1, h2, fun i p hp => e.seq (h3 i p hp)⟩
theorem refs_of {ys : List V} {Pr : Nat → Addr → Prop} (h : ∀ i, i < ys.length → ∃ p, ys[i]? = some (.ref p) ∧ Pr i p) : ∃ as : List Addr, ys = as.map V.ref ∧ ∀ (i : Nat) (p : Addr), as[i]? = some p → Pr i p := by
  refine ⟨ys.map fun y => match y with | .ref p => p | _ => 0, ?_, fun i p hp => ?_⟩
  · rw [List.map_map]
    refine List.ext_getElem? fun i => ?_
    by_cases hi : i < ys.length
    · obtain ⟨p, hp, _⟩ := h i hi
      rw [List.getElem?_map, hp]; rfl
    · rw [List.getElem?_eq_none (by omega), List.getElem?_eq_none (by rw [List.length_map]; omega)]
  · rw [List.getElem?_map] at hp
    by_cases hi : i < ys.length
    · obtain ⟨p', hp', h2⟩ := h i hi
      rw [hp'] at hp
      obtain rfl : p' = p := Option.some.inj hp
      exact h2
    · rw [List.getElem?_eq_none (by omega)] at hp
      cases hp
theorem mi_of {K : PySem.W.Frag} {H : Hp} {D : Addr} {ys : List V} {R : Mx} (hD : H D = some (.lst ys)) (len : ys.length = R.length) {Z : Addr → Prop} (h : ∀ i, i < ys.length → ∃ p, ys[i]? = some (.ref p) ∧ Z p ∧ H p = some (.lst (iv (row R i)))) : MI K H D R := by
  obtain ⟨as, e, h2⟩ := refs_of (Pr := fun i p => Z p ∧ H p = some (.lst (iv (row R i)))) h
  exact ⟨as, .inl (.inl (by rw [hD, e])), by rw [← len, e, List.length_map], fun i p hp => .inl (.inl (h2 i p hp).2)⟩
/-- a list of plain lists -/
def MP (H : Hp) (a : Addr) (R : Mx) : Prop := ∃ as : List Addr, H a = some (.lst (as.map V.ref)) ∧ as.length = R.length ∧ ∀ (i : Nat) (p : Addr), as[i]? = some p → H p = some (.lst (iv (row R i)))
theorem _root_.L2.Same.mp {H H' : Hp} {a : Addr} {R : Mx} (e : Same H H') (h : MP H a R) : MP H' a R := by
  obtain ⟨as, h1, h2, h3⟩ := h
  exact ⟨as, e _ _ h1, h2, fun i p hp => e _ _ (h3 i p hp)⟩
/-- .. all of them new -/
def MPf (H0 H : Hp) (a : Addr) (R : Mx) : Prop := ∃ as : List Addr, H a = some (.lst (as.map V.ref)) ∧ as.length = R.length ∧ ∀ (i : Nat) (p : Addr), as[i]? = some p → H0 p = none ∧ H p = some (.lst (iv (row R i)))
theorem MPf.mp {H0 H : Hp} {a : Addr} {R : Mx} (h : MPf H0 H a R) : MP H a R := by
  obtain ⟨as, h1, h2, h3⟩ := h
  exact ⟨as, h1, h2, fun i p hp => (h3 i p hp).2⟩
def RetP (Q : VK) (H : Hp) (R : Mx) : Prop := ∀ (H' : Hp) (p : Addr), Same H H' → H p = none → MPf H H' p R → Q (.ref p) H'
theorem seq_upd {K : PySem.W.Frag} {H : Hp} {a p : Addr} {xs : List V} {o : HO} (n : a ≠ p) (h : SqL K H a xs) : SqL K (upd H p o) a xs := by
  rcases h with (h | ⟨o, h⟩) | h
  · exact .inl (.inl (by rw [upd_ne n]; exact h))
  · exact .inl (.inr ⟨o, by rw [upd_ne n]; exact h⟩)
  · exact .inr h
theorem seqT_upd {K : PySem.W.Frag} {H : Hp} {a p : Addr} {xs : List V} {o : HO} (n : a ≠ p) (h : SqT K H a xs) : SqT K (upd H p o) a xs := by
  rcases h with (h | ⟨o, h⟩) | h
  · exact .inl (.inl (by rw [upd_ne n]; exact h))
  · exact .inl (.inr ⟨o, by rw [upd_ne n]; exact h⟩)
  · exact .inr h
theorem ty_list {K : PySem.W.Frag} {H : Hp} {a : Addr} {xs : List V} (h : SqL K H a xs) : TyX K H (.ref a) (.type "list") := by
  rcases h with (h | ⟨o, h⟩) | ⟨o, its, n, h1, h2, _⟩
  · exact .base (.lst h)
  · exact .base (.frz h)
  · exact .kList h1 h2
/-- a list of lists is handed back -/
def RetM (K : PySem.W.Frag) (Q : VK) (H : Hp) (R : Mx) : Prop := ∀ (H' : Hp) (p : Addr), Same H H' → MI K H' p R → Q (.ref p) H'
end LG

/-! ## LGcnt -/
namespace LG
open PySem PySem.Spec PyProof.Rows L2

theorem sm_nonneg {n : Nat} {f : Nat → Int} (h : ∀ i, i < n → 0 ≤ f i) : 0 ≤ sm n f := by
  induction n with
  | zero => exact Int.le_refl 0
  | succ n ih =>
    have h1 := ih fun i hi => h i (by omega)
    have h2 := h n (by omega)
    simp only [sm]; omega
theorem sm_mono {n : Nat} {f h : Nat → Int} (e : ∀ i, i < n → f i ≤ h i) : sm n f ≤ sm n h := by
  induction n with
  | zero => exact Int.le_refl 0
  | succ n ih =>
    have h1 := ih fun i hi => e i (by omega)
    have h2 := e n (by omega)
    simp only [sm]; omega
theorem sm_part {n : Nat} {f : Nat → Int} (h : ∀ i, i < n → 0 ≤ f i) {k : Nat} (hk : k < n) : f k ≤ sm n f := by
  induction n with
  | zero => omega
  | succ n ih =>
    have h1 := sm_nonneg (n := n) fun i hi => h i (by omega)
    have h2 := h n (by omega)
    simp only [sm]
    by_cases e : k = n
    · subst e; omega
    · have := ih (fun i hi => h i (by omega)) (by omega)
      omega

theorem cntT_nil (c : Nat) : cntT [] c = 0 := by
  unfold cntT
  rw [show sOf [c] = ⟨#[c]⟩ from rfl, PyProof.Rows.count_cnt]; rfl
theorem cntT_cons (x : Nat) (t : List Nat) (c : Nat) : cntT (x :: t) c = (if x = c then 1 else 0) + cntT t c := by
  unfold cntT
  rw [show sOf [c] = ⟨#[c]⟩ from rfl, PyProof.Rows.count_cnt, PyProof.Rows.count_cnt]
  have e : ∀ l : List Nat, (sOf l).cps.toList = l := fun l => tl_sOf l
  rw [e, e]
  exact PyProof.Rows.cnt_cons c x t
theorem cntT_nonneg (t : List Nat) (c : Nat) : 0 ≤ cntT t c := (cntT_bound t c).1

theorem tally_sum : ∀ (l t : List Nat), l.Nodup → (tallyV l t).sum ≤ t.length := by
  intro l t hl
  induction t with
  | nil =>
    have : ∀ l : List Nat, (tallyV l []).sum = 0 := fun l => by
      induction l with
      | nil => rfl
      | cons c l ih => show (cntT [] c + (tallyV l []).sum) = 0; rw [ih, cntT_nil]; rfl
    rw [this]; simp
  | cons x t ih =>
    have e : ∀ l : List Nat, l.Nodup → (tallyV l (x :: t)).sum ≤ 1 + (tallyV l t).sum ∧ (x ∉ l → (tallyV l (x :: t)).sum = (tallyV l t).sum) := by
      intro l
      induction l with
      | nil => intro _; exact ⟨by show (0 : Int) ≤ 1 + 0; omega, fun _ => rfl⟩
      | cons c l ih =>
        intro hn
        obtain ⟨h1, h2⟩ := List.nodup_cons.mp hn
        obtain ⟨i1, i2⟩ := ih h2
        have e1 : (tallyV (c :: l) (x :: t)).sum = cntT (x :: t) c + (tallyV l (x :: t)).sum := rfl
        have e2 : (tallyV (c :: l) t).sum = cntT t c + (tallyV l t).sum := rfl
        rw [e1, e2, cntT_cons]
        refine ⟨?_, fun hx => ?_⟩
        · by_cases hc : x = c
          · subst hc
            rw [if_pos rfl, i2 h1]; omega
          · rw [if_neg hc]; omega
        · rw [List.mem_cons, not_or] at hx
          rw [if_neg hx.1, i2 hx.2]; omega
    have := (e l hl).1
    rw [List.length_cons]
    omega

theorem tally_nonneg (l t : List Nat) (i : Nat) : 0 ≤ g (tallyV l t) i := by
  by_cases h : i < (tallyV l t).length
  · unfold tallyV at *
    rw [g_lt h, List.getElem_map]; exact cntT_nonneg _ _
  · rw [g_ge (by omega)]; exact Int.le_refl 0
theorem tallyV_len (l t : List Nat) : (tallyV l t).length = l.length := List.length_map _

structure BkOK (b : Bk) : Prop where
  nd : b.sg.Nodup
  k : b.k ≤ 5
  word : ∀ q, q ∈ b.rules → q.2.length ≤ 6
  first : b.first.length ≤ 5

theorem Bk.start_len (b : Bk) : b.start.length = b.k := by
  unfold Bk.start; rw [tallyV_len, List.length_map]
theorem Bk.rates_len (b : Bk) : b.rates.length = b.k := List.length_map _
theorem Bk.row_eq (b : Bk) {t : Nat} (h : t < b.k) : ∃ q, q ∈ b.rules ∧ row b.rates t = tallyV b.sg q.2 := by
  refine ⟨b.rules[t], List.getElem_mem h, ?_⟩
  unfold row Bk.rates
  rw [List.getD_eq_getElem?_getD, List.getElem?_map, List.getElem?_eq_getElem h]; rfl
theorem Bk.sqr (b : Bk) : Sqr b.k b.rates := ⟨b.rates_len, fun t ht => by
  obtain ⟨q, _, e⟩ := b.row_eq ht
  rw [e, tallyV_len, List.length_map]⟩
theorem Bk.row_ge (b : Bk) {t : Nat} (h : b.k ≤ t) : row b.rates t = [] := by
  unfold row
  rw [List.getD_eq_getElem?_getD, List.getElem?_eq_none (by rw [b.rates_len]; exact h)]; rfl
theorem Bk.rate_nonneg (b : Bk) (t j : Nat) : 0 ≤ g (row b.rates t) j := by
  by_cases h : t < b.k
  · obtain ⟨q, _, e⟩ := b.row_eq h
    rw [e]; exact tally_nonneg _ _ _
  · rw [b.row_ge (by omega)]; exact Int.le_refl 0
theorem BkOK.rate_sum {b : Bk} (h : BkOK b) {t : Nat} (ht : t < b.k) : sm b.k (fun j => g (row b.rates t) j) ≤ 6 := by
  obtain ⟨q, hq, e⟩ := b.row_eq ht
  have h1 := tally_sum b.sg q.2 h.nd
  have h2 := h.word q hq
  rw [sum_sm, tallyV_len, List.length_map] at h1
  rw [e]
  have : sm b.k (fun j => g (tallyV b.sg q.2) j) = sm b.rules.length (g (tallyV b.sg q.2)) := rfl
  omega
theorem BkOK.rate_le {b : Bk} (h : BkOK b) (t j : Nat) : g (row b.rates t) j ≤ 6 := by
  by_cases ht : t < b.k
  · by_cases hj : j < b.k
    · exact Int.le_trans (sm_part (fun i _ => b.rate_nonneg t i) hj) (h.rate_sum ht)
    · rw [g_ge (by rw [b.sqr.2 t ht]; omega)]; decide
  · rw [b.row_ge (by omega)]
    show (0 : Int) ≤ 6
    decide

/-- the counts of a book -/
abbrev Bk.cnt (b : Bk) (n : Nat) : List Int := LG.cnt b.rates b.start n
theorem Bk.cnt_len (b : Bk) (n : Nat) : (b.cnt n).length = b.k := by rw [LG.cnt_len, b.start_len]
theorem Bk.cnt_nonneg (b : Bk) : ∀ n i, 0 ≤ g (b.cnt n) i
  | 0, i => tally_nonneg _ _ _
  | n + 1, i => by
    by_cases hi : i < b.start.length
    · rw [g_cnt _ _ _ hi]
      exact sm_nonneg fun t _ => Int.mul_nonneg (b.cnt_nonneg n t) (b.rate_nonneg t i)
    · rw [g_ge (by rw [LG.cnt_len]; omega)]; exact Int.le_refl 0
theorem BkOK.total {b : Bk} (h : BkOK b) : ∀ n, sm b.k (fun j => g (b.cnt n) j) ≤ 5 * 6 ^ n
  | 0 => by
    have h1 := tally_sum b.sg b.first h.nd
    have h2 := h.first
    rw [sum_sm, tallyV_len, List.length_map] at h1
    show sm b.rules.length (g b.start) ≤ 5 * 1
    unfold Bk.start
    omega
  | n + 1 => by
    have e : sm b.k (fun j => g (b.cnt (n + 1)) j) = sm b.k (fun t => g (b.cnt n) t * sm b.k (fun j => g (row b.rates t) j)) := by
      have e1 : ∀ j, j < b.k → g (b.cnt (n + 1)) j = sm b.k (fun t => g (b.cnt n) t * g (row b.rates t) j) := fun j hj => by
        rw [g_cnt _ _ _ (by rw [b.start_len]; exact hj), b.start_len]
      rw [sm_congr e1, sm_swap]
      exact sm_congr fun t _ => sm_mul _ _ _
    rw [e]
    have h1 : sm b.k (fun t => g (b.cnt n) t * sm b.k (fun j => g (row b.rates t) j)) ≤ sm b.k (fun t => g (b.cnt n) t * 6) :=
      sm_mono fun t ht => Int.mul_le_mul_of_nonneg_left (h.rate_sum ht) (b.cnt_nonneg n t)
    rw [sm_mul_right] at h1
    have h2 : sm b.k (g (b.cnt n)) ≤ 5 * 6 ^ n := h.total n
    have h3 : sm b.k (fun t => g (b.cnt n) t) = sm b.k (g (b.cnt n)) := rfl
    rw [h3] at h1
    rw [Int.pow_succ]
    omega
theorem BkOK.cnt_le {b : Bk} (h : BkOK b) (n i : Nat) : g (b.cnt n) i ≤ 5 * 6 ^ n := by
  by_cases hi : i < b.k
  · exact Int.le_trans (sm_part (fun i _ => b.cnt_nonneg n i) hi) (h.total n)
  · rw [g_ge (by rw [b.cnt_len]; omega)]
    exact Int.le_trans (sm_nonneg fun i _ => b.cnt_nonneg n i) (h.total n)
theorem six_pow (n : Nat) : (5 : Int) * 6 ^ n < 2 ^ (3 * n + 3) := by
  induction n with
  | zero => decide
  | succ n ih =>
    have h0 : (0 : Int) ≤ 6 ^ n := Int.pow_nonneg (by decide)
    rw [Int.pow_succ, show 3 * (n + 1) + 3 = (3 * n + 3) + 3 by omega, Int.pow_add]
    omega
theorem BkOK.cnt_bits {b : Bk} (h : BkOK b) (n i : Nat) : (g (b.cnt n) i).natAbs < 2 ^ (3 * n + 3) := by
  have h1 := b.cnt_nonneg n i
  have h2 := h.cnt_le n i
  have h3 := six_pow n
  have h4 : ((g (b.cnt n) i).natAbs : Int) < ((2 ^ (3 * n + 3) : Nat) : Int) := by
    rw [Int.natCast_pow]
    have : ((2 : Nat) : Int) = 2 := rfl
    rw [this]
    omega
  exact Int.ofNat_lt.mp h4
end LG

/-! ## W01 -/
set_option maxRecDepth 100000
set_option maxHeartbeats 4000000
namespace LG
open PySem PySem.Spec PyProof.Rows L2
section
variable {P : Program} {w : World} {K : PySem.W.Frag} {mg : Str → Option Value} {base : Heap} {f : Addr} {fd : FuncData}

/-! ### is_whole -/
abbrev s_is_whole : Stmt := topS 5
theorem sc_is_whole : FnScope ["thing"] ["thing"] (defScope s_is_whole) := ⟨rfl, rfl, rfl, by decide +kernel, rfl, by decide +kernel, by decide +kernel⟩
def spIsWhole : Sp := fun vs H Q _ => ∃ i : Int, vs = [.int i] ∧ Q (.bl true) H
theorem ok_is_whole (F : Fun K "is_whole" "is_whole" s_is_whole f fd) (B : Bi mg) : FnOk P w K mg base CX0 1 f fd ["thing"] spIsWhole := by
  refine F.ok sc_is_whole (fun vs H Q E h => ?_) (fun cdv A outer s H vs Q E hr h => ?_)
  · obtain ⟨i, rfl, _⟩ := h
    rfl
  · obtain ⟨i, rfl, q⟩ := h
    refine ⟨_, (pss_one (ps_ret (pe_and (pe_callB call_isi (by rfl) B.isinstance (by decide +kernel) (pa_cons (pv 0) (pa_cons (pe_bltn (v := .ty "int") (u := .type "int") (by rfl) B.int (by decide +kernel) rfl) pa_nil))) (pe_one (pe_not (pe_callB call_isi (by rfl) B.isinstance (by decide +kernel) (pa_cons (pv 0) (pa_cons (pe_bltn (v := .ty "bool") (u := .type "bool") (by rfl) B.bool (by decide +kernel) rfl) pa_nil)))))))), ?_⟩
    refine ⟨.int i, rfl, .int i, .ty "int", .type "int", .type "int", true, rfl, .ty "int", .base (.int i), kit_ty (by decide +kernel), true, rfl, iteT ?_⟩
    exact ⟨.int i, rfl, .int i, .ty "bool", .type "int", .type "bool", false, rfl, .ty "bool", .base (.int i), kit_ty (by decide +kernel), false, rfl, q⟩

/-! ### need_age -/
structure CNeedAge (P : Program) (w : World) (K : PySem.W.Frag) (mg : Str → Option Value) (base : Heap) : Prop where
  is_whole : Cal P w K mg base "is_whole" ["thing"] spIsWhole 1
structure MAge (mg : Str → Option Value) : Prop where
  LAST_AGE : ∃ t, mg "LAST_AGE" = some (.int 300 t)
abbrev s_need_age : Stmt := topS 9
theorem sc_need_age : FnScope ["age"] ["age"] (defScope s_need_age) := ⟨rfl, rfl, rfl, by decide +kernel, rfl, by decide +kernel, by decide +kernel⟩
def spNeedAge : Sp := fun vs H Q _ => ∃ i : Int, vs = [.int i] ∧ 0 ≤ i ∧ i ≤ 300 ∧ Q .non H
theorem ok_need_age (F : Fun K "need_age" "need_age" s_need_age f fd) (C : CNeedAge P w K mg base) (M : MAge mg) : FnOk P w K mg base CX0 2 f fd ["age"] spNeedAge := by
  obtain ⟨_, m_LAST_AGE⟩ := M.LAST_AGE
  refine F.ok sc_need_age (fun vs H Q E h => ?_) (fun cdv A outer s H vs Q E hr h => ?_)
  · obtain ⟨i, rfl, _⟩ := h
    rfl
  · obtain ⟨i, rfl, h0, h1, q⟩ := h
    refine ⟨_, (pss_one (ps_if (PW.pt (pw_or (pt_not (pt_val (pe_cal C.is_whole hr (by decide) (pa_cons (pv 0) pa_nil)))) (pw_or (pt_cmpR op_lt (pv 0) pe_int (nomark _)) (pw_or1 (pt_cmpR op_gt (pv 0) (pe_glob (v := .int (300)) (by rfl) m_LAST_AGE ⟨_, rfl⟩) (nomark _))))))
        (pss_one ps_never)
        pss_nil)), ?_⟩
    refine ⟨.int i, rfl, i, rfl, true, rfl, iteF ?_⟩
    refine ⟨.int i, rfl, i, 0, rfl, rfl, _, rfl, ite2 (fun e => absurd (of_decide_eq_true e) (by omega)) fun _ => ?_⟩
    refine ⟨.int i, rfl, i, 300, rfl, rfl, _, rfl, ite2 (fun e => absurd (of_decide_eq_true e) (by omega)) fun _ => q⟩
end
end LG

/-! ## W02 -/
set_option maxRecDepth 100000
set_option maxHeartbeats 4000000
namespace LG
open PySem PySem.Spec PyProof.Rows L2
section
variable {P : Program} {w : World} {K : PySem.W.Frag} {mg : Str → Option Value} {base : Heap} {f : Addr} {fd : FuncData}

/-! ### letters -/
abbrev s_letters : Stmt := topS 6
theorem sc_letters : FnScope ["book", "rule"] ["book"] (defScope s_letters) := ⟨rfl, rfl, rfl, by decide +kernel, rfl, by decide +kernel, by decide +kernel⟩
def spLetters (K : PySem.W.Frag) : Sp := fun vs H Q _ => ∃ (a : Addr) (b : Bk), vs = [.ref a] ∧ BookAt K H a b ∧ b.k ≤ 100 ∧ ∀ H', Same H H' → Q (.str (sOf b.sg)) H'
theorem ok_letters (F : Fun K "letters" "letters" s_letters f fd) (B : Bi mg) : FnOk P w K mg base CX0 1 f fd ["book"] (spLetters K) := by
  refine F.ok sc_letters (fun vs H Q E h => ?_) (fun cdv A outer s H vs Q E hr h => ?_)
  · obtain ⟨a, b, rfl, _⟩ := h
    rfl
  · obtain ⟨a, b, rfl, hb, hk, q⟩ := h
    have hb0 := hb
    obtain ⟨t, rs, h1, h2, h3, h4⟩ := hb
    refine ⟨_, (pss_one (ps_ret (pe_join pe_str (pe_lc (own := [("rule", 1)]) (g := _) (tt := tYes) rfl sc_letters.nd (pi_tup (pe_ix (r := rIxT K) ix_tup (pv 0) pe_int (fun _ _ => rfl))) (blkOk_by (N := ["book", "rule"]) (sc := defScope s_letters) (by decide +kernel)) (fun _ _ _ _ _ => (pg_name (i := 1) sc_letters.nd rfl (.inl rfl))) (fun _ _ _ _ _ => pts_nil) (fun _ _ _ _ _ => (pe_ix (r := rIxT K) ix_tup (pv 1) pe_int (fun _ _ => rfl))))))), ?_⟩
    refine ⟨⟨_, rfl⟩, .ref a, rfl, a, _, 1, .ref t, rfl, rfl, h1, atI_nat (j := 1) rfl, t, rfl, ⟨_, h2⟩, fun D nD => ?_⟩
    refine lc_acc (walk_tup (xs := rs.map V.ref)) nD (by rw [List.length_map, h3]; exact Nat.le_trans hk (by decide)) (fun i y _ => ∃ q : Nat × List Nat, b.rules[i]? = some q ∧ y = .str (sOf [q.1])) (fun _ _ _ _ h _ => h) (fun H sm => sm.seqT h2)
      (fun i x H1 H' hi sm hD hy R N qq => ?_) (fun H1 ys sm hD hl hacc => ?_)
    · obtain ⟨rfl, hx⟩ := hy
      rw [List.getElem?_map] at hx
      cases e : rs[i]? with
      | none => rw [e] at hx; cases hx
      | some r =>
        rw [e] at hx
        obtain rfl : V.ref r = x := Option.some.inj hx
        obtain ⟨p, p1, p2⟩ := h4 i r e
        refine ⟨rfl, yes_ok ?_⟩
        exact ⟨.ref r, rfl, r, _, 0, .str (sOf [p.1]), rfl, rfl, sm.seqT p2, atI_nat (j := 0) rfl, qq _ _ (Same.refl _) ⟨p, p1, rfl⟩⟩
    · have ey : ys = (b.rules.map fun p => sOf [p.1]).map V.str := by
        refine List.ext_getElem? fun i => ?_
        by_cases hi : i < ys.length
        · obtain ⟨p, p1, p2⟩ := hacc i _ (List.getElem?_eq_getElem hi)
          rw [List.getElem?_eq_getElem hi, p2, List.getElem?_map, List.getElem?_map, p1]; rfl
        · rw [List.getElem?_eq_none (by omega), List.getElem?_eq_none (by rw [List.length_map, List.length_map, ← h3]; rw [List.length_map] at hl; omega)]
      refine ⟨sOf [], D, b.rules.map fun p => sOf [p.1], rfl, rfl, .inl (.inl (.inl (by rw [hD, ey]))), ?_, ?_⟩
      · have e1 : (b.rules.map fun p => sOf [p.1]).map (·.length) = List.replicate b.rules.length 1 := by
          rw [List.map_map]
          rw [List.eq_replicate_iff]
          refine ⟨List.length_map _, fun x hx => ?_⟩
          obtain ⟨p, _, e⟩ := List.mem_map.mp hx
          rw [← e]; exact sOf_len [p.1]
        rw [e1, sOf_len, List.sum_replicate_nat]
        simp
        have : b.rules.length ≤ 100 := hk
        omega
      · have e2 := join_sings b.sg
        rw [List.map_map] at e2
        show Q (.str (Txt.join (sOf []) (b.rules.map fun p => sOf [p.1]))) H1
        rw [show (b.rules.map fun p => sOf [p.1]) = b.rules.map ((fun c => sOf [c]) ∘ fun x => x.1) from rfl, e2]
        exact q H1 sm

/-! ### tally -/
abbrev s_tally : Stmt := topS 11
theorem sc_tally : FnScope ["signs", "text", "sign"] ["signs", "text"] (defScope s_tally) := ⟨rfl, rfl, rfl, by decide +kernel, rfl, by decide +kernel, by decide +kernel⟩
def spTally : Sp := fun vs H Q _ => ∃ (l t : List Nat), vs = [.str (sOf l), .str (sOf t)] ∧ l.length ≤ 100 ∧ RetL Q H (tallyV l t)
theorem ok_tally (F : Fun K "tally" "tally" s_tally f fd) : FnOk P w K mg base CX0 1 f fd ["signs", "text"] spTally := by
  refine F.ok sc_tally (fun vs H Q E h => ?_) (fun cdv A outer s H vs Q E hr h => ?_)
  · obtain ⟨l, t, rfl, _⟩ := h
    rfl
  · obtain ⟨l, t, rfl, hl, q⟩ := h
    refine ⟨_, (pss_one (ps_ret (pe_lc (own := [("sign", 2)]) (g := _) (tt := tYes) rfl sc_tally.nd (pi_str (pv 0)) (blkOk_by (N := ["signs", "text", "sign"]) (sc := defScope s_tally) (by decide +kernel)) (fun _ _ _ _ _ => (pg_name (i := 2) sc_tally.nd rfl (.inl rfl))) (fun _ _ _ _ _ => pts_nil) (fun _ _ _ _ _ => (pe_m1 PySem.F.slot_str_count PySem.F.type_str_count mt_count (pv 1) (pv 2)))))), ?_⟩
    refine ⟨.str (sOf l), rfl, sOf l, rfl, fun D nD => ?_⟩
    refine lc_acc (walk_str (z := sOf l)) nD (by show l.toArray.size ≤ _; simp; omega) (fun i y _ => ∃ c, l[i]? = some c ∧ y = .int (cntT t c)) (fun _ _ _ _ h _ => h) (fun H sm => trivial)
      (fun i x H1 H' hi sm hD hy R N qq => ?_) (fun H1 ys sm hD hl hacc => ?_)
    · obtain ⟨rfl, c, hc, rfl⟩ := hy
      have hc : l[i]? = some c := by
        have : l.toArray[i]? = some c := hc
        simpa using this
      refine ⟨rfl, yes_ok ?_⟩
      exact ⟨.str (sOf t), rfl, ⟨_, rfl⟩, .str (sOf [c]), rfl, sOf t, sOf [c], rfl, rfl, qq _ _ (Same.refl _) ⟨c, hc, rfl⟩⟩
    · have hn : (sOf l).cps.size = l.length := by unfold sOf; simp
      refine q H1 D sm nD ?_
      rw [hD]
      congr 2
      refine List.ext_getElem? fun i => ?_
      by_cases hi : i < ys.length
      · obtain ⟨c, c1, c2⟩ := hacc i _ (List.getElem?_eq_getElem hi)
        rw [List.getElem?_eq_getElem hi, c2, List.getElem?_map, tallyV, List.getElem?_map, c1]; rfl
      · rw [List.getElem?_eq_none (by omega), List.getElem?_eq_none (by rw [List.length_map, tallyV, List.length_map]; omega)]

/-! ### table -/
structure CTable (P : Program) (w : World) (K : PySem.W.Frag) (mg : Str → Option Value) (base : Heap) : Prop where
  letters : Cal P w K mg base "letters" ["book"] (spLetters K) 1
  tally : Cal P w K mg base "tally" ["signs", "text"] spTally 1
abbrev s_table : Stmt := topS 12
theorem sc_table : FnScope ["book", "signs", "rule"] ["book"] (defScope s_table) := ⟨rfl, rfl, rfl, by decide +kernel, rfl, by decide +kernel, by decide +kernel⟩
def spTable (K : PySem.W.Frag) : Sp := fun vs H Q _ => ∃ (a : Addr) (b : Bk), vs = [.ref a] ∧ BookAt K H a b ∧ b.k ≤ 100 ∧ RetM K Q H b.rates
theorem ok_table (F : Fun K "table" "table" s_table f fd) (B : Bi mg) (C : CTable P w K mg base) : FnOk P w K mg base CX0 2 f fd ["book"] (spTable K) := by
  refine F.ok sc_table (fun vs H Q E h => ?_) (fun cdv A outer s H vs Q E hr h => ?_)
  · obtain ⟨a, b, rfl, _⟩ := h
    rfl
  · obtain ⟨a, b, rfl, hb, hk, q⟩ := h
    refine ⟨_, (pss_cons (ps_set (i := 1) sc_table.nd rfl (.inr rfl) (pe_cal C.letters hr (by decide) (pa_cons (pv 0) pa_nil)))
      (pss_one (ps_ret (pe_lc (own := [("rule", 2)]) (g := _) (tt := tYes) rfl sc_table.nd (pi_tup (pe_ix (r := rIxT K) ix_tup (pv 0) pe_int (fun _ _ => rfl))) (blkOk_by (N := ["book", "signs", "rule"]) (sc := defScope s_table) (by decide +kernel)) (fun _ _ _ _ _ => (pg_name (i := 2) sc_table.nd rfl (.inl rfl))) (fun _ _ _ _ _ => pts_nil) (fun _ _ _ _ _ => (pe_cal C.tally hr (by decide) (pa_cons (pv 1) (pa_cons (pe_ix (r := rIxT K) ix_tup (pv 2) pe_int (fun _ _ => rfl)) pa_nil)))))))), ?_⟩
    refine ⟨.ref a, rfl, a, b, rfl, hb, hk, fun H0 sm0 => ?_⟩
    obtain ⟨t, rs, h1, h2, h3, h4⟩ := sm0.book hb
    refine ⟨.ref a, rfl, a, _, 1, .ref t, rfl, rfl, h1, atI_nat (j := 1) rfl, t, rfl, ⟨_, h2⟩, fun D nD => ?_⟩
    refine lc_acc (walk_tup (xs := rs.map V.ref)) nD (by rw [List.length_map, h3]; exact Nat.le_trans hk (by decide)) (fun i y H' => ∃ (p : Addr), y = .ref p ∧ p ≠ D ∧ H' p = some (.lst (iv (row b.rates i))))
      (fun i y H1 H2 h sx => by obtain ⟨p, e, n, hp⟩ := h; exact ⟨p, e, n, sx p _ n hp⟩) (fun H sm => sm.seqT h2)
      (fun i x H1 H' hi sm hD hy R N qq => ?_) (fun H1 ys sm hD hl hacc => ?_)
    · obtain ⟨rfl, hx⟩ := hy
      rw [List.getElem?_map] at hx
      cases e : rs[i]? with
      | none => rw [e] at hx; cases hx
      | some r =>
        rw [e] at hx
        obtain rfl : V.ref r = x := Option.some.inj hx
        obtain ⟨p, p1, p2⟩ := h4 i r e
        obtain ⟨o, hD⟩ := hD
        refine ⟨rfl, yes_ok ?_⟩
        refine ⟨.str (sOf b.sg), rfl, .ref r, rfl, r, _, 1, .str (sOf p.2), rfl, rfl, sm.seqT p2, atI_nat (j := 1) rfl, b.sg, p.2, rfl, by rw [List.length_map]; exact hk, fun H2 z s2 nz hz => ?_⟩
        refine qq _ _ s2 ⟨z, rfl, fun e => ?_, ?_⟩
        · rw [e, hD] at nz; cases nz
        · rw [hz]
          unfold Bk.rates row
          rw [List.getD_eq_getElem?_getD, List.getElem?_map, p1]; rfl
    · rw [List.length_map] at hl
      have len : ys.length = b.rates.length := by unfold Bk.rates; rw [List.length_map, hl, h3]
      have pick : ∀ i, i < ys.length → ∃ p, ys[i]? = some (.ref p) ∧ p ≠ D ∧ H1 p = some (.lst (iv (row b.rates i))) := fun i hi => by
        obtain ⟨p, e, n, hp⟩ := hacc i _ (List.getElem?_eq_getElem hi)
        exact ⟨p, by rw [List.getElem?_eq_getElem hi, e], n, hp⟩
      refine q H1 D (sm0.trans sm) (mi_of hD len pick)
end
end LG

/-! ## W03 -/
set_option maxRecDepth 100000
set_option maxHeartbeats 4000000
namespace LG
open PySem PySem.Spec PyProof.Rows L2


section
variable {P : Program} {w : World} {K : PySem.W.Frag} {mg : Str → Option Value} {base : Heap} {f : Addr} {fd : FuncData}

/-! ### passed -/
abbrev s_passed : Stmt := topS 13
theorem sc_passed : FnScope ["rates", "amounts", "found", "at", "amount", "place", "rate", "one"] ["rates", "amounts"] (defScope s_passed) := ⟨rfl, rfl, rfl, by decide +kernel, rfl, by decide +kernel, by decide +kernel⟩
def spPassed (K : PySem.W.Frag) : Sp := fun vs H Q _ => ∃ (r a : Addr) (R : Mx) (xs : List Int), vs = [.ref r, .ref a] ∧ MI K H r R ∧ SqL K H a (iv xs) ∧ Sqr xs.length R ∧ xs.length ≤ 100 ∧ Bits 100000 xs ∧ BitsM 100000 R ∧ RetL Q H (LG.passed R xs)
theorem ok_passed (F : Fun K "passed" "passed" s_passed f fd) (B : Bi mg) : FnOk P w K mg base CX0 1 f fd ["rates", "amounts"] (spPassed K) := by
  refine F.ok sc_passed (fun vs H Q E h => ?_) (fun cdv A outer s H vs Q E hr h => ?_)
  · obtain ⟨r, a, R, xs, rfl, _⟩ := h
    rfl
  · obtain ⟨r, a, R, xs, rfl, hR, hA, hq, hk, bx, bR, q⟩ := h
    refine ⟨_, (pss_cons (ps_setLc (i := 2) (own := [("one", 7)]) (g := _) (tt := tYes) rfl sc_passed.nd rfl rfl (sw_true rfl rfl rfl (by decide +kernel)) (pi_list (pv 1)) (blkOk_by (N := ["rates", "amounts", "found", "at", "amount", "place", "rate", "one"]) (sc := defScope s_passed) (by decide +kernel)) (fun _ _ _ _ _ => (pg_name (i := 7) sc_passed.nd rfl (.inl rfl))) (fun _ _ _ _ _ => pts_nil) (fun _ _ _ _ _ => pe_int))
      (pss_cons (ps_for PassesOwn.never rfl (pi_enum (by rfl) B.enumerate (pa_cons (pv 1) pa_nil)) (pg_tup rfl (pgs_cons (pg_name (i := 3) sc_passed.nd rfl (.inl rfl)) (pgs_cons (pg_name (i := 4) sc_passed.nd rfl (.inl rfl)) pgs_nil)))
        (pss_one (ps_if (pt_cmpR op_ne (pv 4) pe_int (nomark _))
          (pss_one (ps_for PassesOwn.never rfl (pi_enum (by rfl) B.enumerate (pa_cons (pe_ix (r := rIxL K) ix_list (pv 0) (pv 3) (fun _ _ => rfl)) pa_nil)) (pg_tup rfl (pgs_cons (pg_name (i := 5) sc_passed.nd rfl (.inl rfl)) (pgs_cons (pg_name (i := 6) sc_passed.nd rfl (.inl rfl)) pgs_nil)))
            (pss_one (ps_asg (pe_op op_add (pe_ix (r := rIxL K) ix_list (pv 2) (pv 5) (fun _ _ => rfl)) (pe_op op_mulW (pv 4) (pv 6))) (pg_sub (pv 2) (pv 5) set_list)))))
          pss_nil)))
      (pss_one (ps_ret (pv 2))))), ?_⟩
    refine ⟨.ref a, rfl, a, rfl, ⟨_, hA⟩, fun D nD => ?_⟩
    refine lc_acc (walk_list (xs := iv xs)) nD (by rw [iv_len]; omega) (fun i y _ => y = .int 0) (fun _ _ _ _ h _ => h) (fun H s1 => s1.seq hA)
      (fun i x H1 H' hi s1 hD hy R' N qq => ?_) (fun H1 ys s1 hD hl hacc => ?_)
    · obtain ⟨rfl, hx⟩ := hy
      exact ⟨rfl, yes_ok (qq _ _ (Same.refl _) rfl)⟩
    · have ey := iv_rep hl hacc
      rw [iv_len] at ey
      subst ey
      obtain ⟨as, a1, a2, a3⟩ := hR
      refine ⟨.ref a, rfl, a, iv xs, rfl, s1.seq hA, ?_⟩
      refine for_it (walk_enum (xs := iv xs)) (fun i σ H2 => ∃ y3 y4 y5 y6 y7, σ = [some (.ref r), some (.ref a), some (.ref D), y3, y4, y5, y6, y7] ∧ Same H H2 ∧
        ∃ fs : List Int, H2 D = some (.lst (iv fs)) ∧ fs.length = xs.length ∧ ∀ j, j < xs.length → g fs j = sm i (fun t => g xs t * g (row R t) j)) ?_ ?_ ?_ ?_
      · exact ⟨_, _, _, _, _, rfl, s1, _, hD, List.length_replicate, fun j hj => by rw [g_lt (by rw [List.length_replicate]; exact hj), List.getElem_replicate]; rfl⟩
      · rintro i σ H2 hi ⟨y3, y4, y5, y6, y7, rfl, s2, _⟩
        exact s2.seq hA
      · rintro i x σ H2 H3 hi ⟨y3, y4, y5, y6, y7, rfl, s2, fs, hf, lf, gf⟩ ⟨T, u1, u2, rfl, nT, rfl, e1, e2⟩
        obtain ⟨hi2, rfl⟩ := iv_get e2
        obtain rfl : V.int i = u1 := Option.some.inj e1
        have nTD : D ≠ T := ne_of_none hf nT
        have s3 : Same H (upd H2 T (.tup [.int i, .int (g xs i)])) := s2.trans (same_upd nT)
        have hf3 : (upd H2 T (.tup [.int i, .int (g xs i)])) D = some (.lst (iv fs)) := by rw [upd_ne nTD]; exact hf
        refine ⟨T, _, rfl, .inl (.inl upd_same), rfl, _, _, rfl, _, _, rfl, rfl, ?_⟩
        refine ⟨.int (g xs i), rfl, rfl, _, rfl, ?_⟩
        by_cases h0 : V.int (g xs i) = V.int 0
        · rw [decide_eq_true h0]
          refine iteF ⟨_, _, _, _, _, rfl, s3, fs, hf3, lf, fun j hj => ?_⟩
          have h00 : g xs i = 0 := V.int.inj h0
          rw [gf j hj]
          show _ = sm i _ + g xs i * g (row R i) j
          rw [h00, Int.zero_mul, Int.add_zero]
        · rw [decide_eq_false h0]
          refine iteT ?_
          have hia : i < as.length := by rw [a2, hq.1]; exact hi2
          have ga : (as.map V.ref)[i]? = some (.ref as[i]) := by rw [List.getElem?_map, List.getElem?_eq_getElem hia]; rfl
          have hrow := a3 i as[i] (List.getElem?_eq_getElem hia)
          have lrow : (row R i).length = xs.length := hq.2 i hi2
          refine ⟨.ref r, rfl, .int i, rfl, r, _, i, _, rfl, rfl, s3.seq a1, atI_nat ga, as[i], _, rfl, s3.seq hrow, ?_⟩
          refine for_it (walk_enum (xs := iv (row R i))) (fun p σ H4 => ∃ y5 y6 y7, σ = [some (.ref r), some (.ref a), some (.ref D), some (.int i), some (.int (g xs i)), y5, y6, y7] ∧ Same H H4 ∧
            ∃ fs' : List Int, H4 D = some (.lst (iv fs')) ∧ fs'.length = xs.length ∧ ∀ j, j < xs.length → g fs' j = g fs j + if j < p then g xs i * g (row R i) j else 0) ?_ ?_ ?_ ?_
          · exact ⟨_, _, _, rfl, s3, fs, hf3, lf, fun j hj => by rw [if_neg (Nat.not_lt_zero _), Int.add_zero]⟩
          · rintro p σ H4 hp ⟨y5, y6, y7, rfl, s4, _⟩
            exact s4.seq hrow
          · rintro p x σ H4 H5 hp ⟨y5, y6, y7, rfl, s4, fs', hf4, lf4, gf4⟩ ⟨T2, u1, u2, rfl, nT2, rfl, e1, e2⟩
            obtain ⟨hp2, rfl⟩ := iv_get e2
            obtain rfl : V.int p = u1 := Option.some.inj e1
            rw [lrow] at hp2
            have nT2D : D ≠ T2 := ne_of_none hf4 nT2
            have s5 : Same H4 (upd H4 T2 (.tup [.int p, .int (g (row R i) p)])) := same_upd nT2
            have hf5 : (upd H4 T2 (.tup [.int p, .int (g (row R i) p)])) D = some (.lst (iv fs')) := by rw [upd_ne nT2D]; exact hf4
            refine ⟨T2, _, rfl, .inl (.inl upd_same), rfl, _, _, rfl, _, _, rfl, rfl, ?_⟩
            refine ⟨.ref D, rfl, .int p, rfl, D, _, p, _, rfl, rfl, .inl (.inl hf5), atI_iv (by omega), .int (g xs i), rfl, .int (g (row R i) p), rfl, _, _, rfl, rfl, wide_mul (bx i) (bR i p) (by decide) (by decide) (by decide), _, _, rfl, rfl, ?_⟩
            refine ⟨.ref D, rfl, .int p, rfl, D, _, p, p, rfl, rfl, hf5, ixN_nat (by rw [iv_len]; omega), ?_⟩
            rw [iv_set]
            have sD : ∀ o, Same H (upd (upd H4 T2 (.tup [.int p, .int (g (row R i) p)])) D o) := fun o b z hb => by
              rw [upd_ne (ne_of_none hb nD)]
              exact s5 _ _ (s4 _ _ hb)
            refine ⟨_, _, _, rfl, sD _, _, upd_same, by rw [List.length_set]; exact lf4, fun j hj => ?_⟩
            rw [g_set (by omega)]
            by_cases e : p = j
            · subst e
              rw [if_pos rfl, gf4 p hj, if_neg (by omega), if_pos (by omega)]; omega
            · rw [if_neg e, gf4 j hj]
              by_cases l : j < p
              · rw [if_pos l, if_pos (by omega)]
              · rw [if_neg l, if_neg (by omega)]
          · rintro σ H4 ⟨y5, y6, y7, rfl, s4, fs', hf4, lf4, gf4⟩
            refine ⟨_, _, _, _, _, rfl, s4, fs', hf4, lf4, fun j hj => ?_⟩
            rw [gf4 j hj, iv_len, if_pos (by rw [lrow]; exact hj), gf j hj]; rfl
      · rintro σ H2 ⟨y3, y4, y5, y6, y7, rfl, s2, fs, hf, lf, gf⟩
        refine ⟨.ref D, rfl, q H2 D s2 nD ?_⟩
        rw [hf]
        congr 2
        refine congrArg iv (ext_g (by rw [passed_len]; exact lf) fun j hj => ?_)
        rw [gf j (by omega), g_passed _ _ (by omega), iv_len]
end
end LG

/-! ## W04 -/
set_option maxRecDepth 100000
set_option maxHeartbeats 4000000
namespace LG
open PySem PySem.Spec PyProof.Rows L2


section
variable {P : Program} {w : World} {K : PySem.W.Frag} {mg : Str → Option Value} {base : Heap} {f : Addr} {fd : FuncData}

/-! ### led -/
abbrev s_led : Stmt := topS 21
theorem sc_led : FnScope ["amounts", "rates", "number", "found", "at", "amount", "place", "rate", "one"] ["amounts", "rates", "number"] (defScope s_led) := ⟨rfl, rfl, rfl, by decide +kernel, rfl, by decide +kernel, by decide +kernel⟩
def spLed (K : PySem.W.Frag) : Sp := fun vs H Q _ => ∃ (r a : Addr) (R : Mx) (xs : List Int) (n : Int), vs = [.ref a, .ref r, .int n] ∧ 0 < n ∧ MI K H r R ∧ SqL K H a (iv xs) ∧ Sqr xs.length R ∧ xs.length ≤ 100 ∧ Bits 100000 xs ∧ BitsM 100000 R ∧ RetL Q H (LG.led n xs R)
theorem ok_led (F : Fun K "led" "led" s_led f fd) (B : Bi mg) : FnOk P w K mg base CX0 1 f fd ["amounts", "rates", "number"] (spLed K) := by
  refine F.ok sc_led (fun vs H Q E h => ?_) (fun cdv A outer s H vs Q E hr h => ?_)
  · obtain ⟨r, a, R, xs, n, rfl, _⟩ := h
    rfl
  · obtain ⟨r, a, R, xs, n, rfl, hn, hR, hA, hq, hk, bx, bR, q⟩ := h
    refine ⟨_, (pss_cons (ps_setLc (i := 3) (own := [("one", 8)]) (g := _) (tt := tYes) rfl sc_led.nd rfl rfl (sw_true rfl rfl rfl (by decide +kernel)) (pi_list (pv 0)) (blkOk_by (N := ["amounts", "rates", "number", "found", "at", "amount", "place", "rate", "one"]) (sc := defScope s_led) (by decide +kernel)) (fun _ _ _ _ _ => (pg_name (i := 8) sc_led.nd rfl (.inl rfl))) (fun _ _ _ _ _ => pts_nil) (fun _ _ _ _ _ => pe_int))
      (pss_cons (ps_for PassesOwn.never rfl (pi_enum (by rfl) B.enumerate (pa_cons (pv 0) pa_nil)) (pg_tup rfl (pgs_cons (pg_name (i := 4) sc_led.nd rfl (.inl rfl)) (pgs_cons (pg_name (i := 5) sc_led.nd rfl (.inl rfl)) pgs_nil)))
        (pss_one (ps_if (pt_cmpR op_ne (pv 5) pe_int (nomark _))
          (pss_one (ps_for PassesOwn.never rfl (pi_enum (by rfl) B.enumerate (pa_cons (pe_ix (r := rIxL K) ix_list (pv 1) (pv 4) (fun _ _ => rfl)) pa_nil)) (pg_tup rfl (pgs_cons (pg_name (i := 6) sc_led.nd rfl (.inl rfl)) (pgs_cons (pg_name (i := 7) sc_led.nd rfl (.inl rfl)) pgs_nil)))
            (pss_one (ps_asg (pe_op op_add (pe_ix (r := rIxL K) ix_list (pv 3) (pv 6) (fun _ _ => rfl)) (pe_op op_mulW (pv 5) (pv 7))) (pg_sub (pv 3) (pv 6) set_list)))))
          pss_nil)))
      (pss_one (ps_ret (pe_lc (own := [("one", 8)]) (g := _) (tt := tYes) rfl sc_led.nd (pi_list (pv 3)) (blkOk_by (N := ["amounts", "rates", "number", "found", "at", "amount", "place", "rate", "one"]) (sc := defScope s_led) (by decide +kernel)) (fun _ _ _ _ _ => (pg_name (i := 8) sc_led.nd rfl (.inl rfl))) (fun _ _ _ _ _ => pts_nil) (fun _ _ _ _ _ => (pe_op op_mod (pv 8) (pv 2)))))))), ?_⟩
    refine ⟨.ref a, rfl, a, rfl, ⟨_, hA⟩, fun D nD => ?_⟩
    refine lc_acc (walk_list (xs := iv xs)) nD (by rw [iv_len]; omega) (fun i y _ => y = .int 0) (fun _ _ _ _ h _ => h) (fun H s1 => s1.seq hA)
      (fun i x H1 H' hi s1 hD hy R' N qq => ?_) (fun H1 ys s1 hD hl hacc => ?_)
    · obtain ⟨rfl, hx⟩ := hy
      exact ⟨rfl, yes_ok (qq _ _ (Same.refl _) rfl)⟩
    · have ey := iv_rep hl hacc
      rw [iv_len] at ey
      subst ey
      obtain ⟨as, a1, a2, a3⟩ := hR
      refine ⟨.ref a, rfl, a, iv xs, rfl, s1.seq hA, ?_⟩
      refine for_it (walk_enum (xs := iv xs)) (fun i σ H2 => ∃ y3 y4 y5 y6 y7, σ = [some (.ref a), some (.ref r), some (.int n), some (.ref D), y3, y4, y5, y6, y7] ∧ Same H H2 ∧
        ∃ fs : List Int, H2 D = some (.lst (iv fs)) ∧ fs.length = xs.length ∧ ∀ j, j < xs.length → g fs j = sm i (fun t => g xs t * g (row R t) j)) ?_ ?_ ?_ ?_
      · exact ⟨_, _, _, _, _, rfl, s1, _, hD, List.length_replicate, fun j hj => by rw [g_lt (by rw [List.length_replicate]; exact hj), List.getElem_replicate]; rfl⟩
      · rintro i σ H2 hi ⟨y3, y4, y5, y6, y7, rfl, s2, _⟩
        exact s2.seq hA
      · rintro i x σ H2 H3 hi ⟨y3, y4, y5, y6, y7, rfl, s2, fs, hf, lf, gf⟩ ⟨T, u1, u2, rfl, nT, rfl, e1, e2⟩
        obtain ⟨hi2, rfl⟩ := iv_get e2
        obtain rfl : V.int i = u1 := Option.some.inj e1
        have nTD : D ≠ T := ne_of_none hf nT
        have s3 : Same H (upd H2 T (.tup [.int i, .int (g xs i)])) := s2.trans (same_upd nT)
        have hf3 : (upd H2 T (.tup [.int i, .int (g xs i)])) D = some (.lst (iv fs)) := by rw [upd_ne nTD]; exact hf
        refine ⟨T, _, rfl, .inl (.inl upd_same), rfl, _, _, rfl, _, _, rfl, rfl, ?_⟩
        refine ⟨.int (g xs i), rfl, rfl, _, rfl, ?_⟩
        by_cases h0 : V.int (g xs i) = V.int 0
        · rw [decide_eq_true h0]
          refine iteF ⟨_, _, _, _, _, rfl, s3, fs, hf3, lf, fun j hj => ?_⟩
          have h00 : g xs i = 0 := V.int.inj h0
          rw [gf j hj]
          show _ = sm i _ + g xs i * g (row R i) j
          rw [h00, Int.zero_mul, Int.add_zero]
        · rw [decide_eq_false h0]
          refine iteT ?_
          have hia : i < as.length := by rw [a2, hq.1]; exact hi2
          have ga : (as.map V.ref)[i]? = some (.ref as[i]) := by rw [List.getElem?_map, List.getElem?_eq_getElem hia]; rfl
          have hrow := a3 i as[i] (List.getElem?_eq_getElem hia)
          have lrow : (row R i).length = xs.length := hq.2 i hi2
          refine ⟨.ref r, rfl, .int i, rfl, r, _, i, _, rfl, rfl, s3.seq a1, atI_nat ga, as[i], _, rfl, s3.seq hrow, ?_⟩
          refine for_it (walk_enum (xs := iv (row R i))) (fun p σ H4 => ∃ y5 y6 y7, σ = [some (.ref a), some (.ref r), some (.int n), some (.ref D), some (.int i), some (.int (g xs i)), y5, y6, y7] ∧ Same H H4 ∧
            ∃ fs' : List Int, H4 D = some (.lst (iv fs')) ∧ fs'.length = xs.length ∧ ∀ j, j < xs.length → g fs' j = g fs j + if j < p then g xs i * g (row R i) j else 0) ?_ ?_ ?_ ?_
          · exact ⟨_, _, _, rfl, s3, fs, hf3, lf, fun j hj => by rw [if_neg (Nat.not_lt_zero _), Int.add_zero]⟩
          · rintro p σ H4 hp ⟨y5, y6, y7, rfl, s4, _⟩
            exact s4.seq hrow
          · rintro p x σ H4 H5 hp ⟨y5, y6, y7, rfl, s4, fs', hf4, lf4, gf4⟩ ⟨T2, u1, u2, rfl, nT2, rfl, e1, e2⟩
            obtain ⟨hp2, rfl⟩ := iv_get e2
            obtain rfl : V.int p = u1 := Option.some.inj e1
            rw [lrow] at hp2
            have nT2D : D ≠ T2 := ne_of_none hf4 nT2
            have s5 : Same H4 (upd H4 T2 (.tup [.int p, .int (g (row R i) p)])) := same_upd nT2
            have hf5 : (upd H4 T2 (.tup [.int p, .int (g (row R i) p)])) D = some (.lst (iv fs')) := by rw [upd_ne nT2D]; exact hf4
            refine ⟨T2, _, rfl, .inl (.inl upd_same), rfl, _, _, rfl, _, _, rfl, rfl, ?_⟩
            refine ⟨.ref D, rfl, .int p, rfl, D, _, p, _, rfl, rfl, .inl (.inl hf5), atI_iv (by omega), .int (g xs i), rfl, .int (g (row R i) p), rfl, _, _, rfl, rfl, wide_mul (bx i) (bR i p) (by decide) (by decide) (by decide), _, _, rfl, rfl, ?_⟩
            refine ⟨.ref D, rfl, .int p, rfl, D, _, p, p, rfl, rfl, hf5, ixN_nat (by rw [iv_len]; omega), ?_⟩
            rw [iv_set]
            have sD : ∀ o, Same H (upd (upd H4 T2 (.tup [.int p, .int (g (row R i) p)])) D o) := fun o b z hb => by
              rw [upd_ne (ne_of_none hb nD)]
              exact s5 _ _ (s4 _ _ hb)
            refine ⟨_, _, _, rfl, sD _, _, upd_same, by rw [List.length_set]; exact lf4, fun j hj => ?_⟩
            rw [g_set (by omega)]
            by_cases e : p = j
            · subst e
              rw [if_pos rfl, gf4 p hj, if_neg (by omega), if_pos (by omega)]; omega
            · rw [if_neg e, gf4 j hj]
              by_cases l : j < p
              · rw [if_pos l, if_pos (by omega)]
              · rw [if_neg l, if_neg (by omega)]
          · rintro σ H4 ⟨y5, y6, y7, rfl, s4, fs', hf4, lf4, gf4⟩
            refine ⟨_, _, _, _, _, rfl, s4, fs', hf4, lf4, fun j hj => ?_⟩
            rw [gf4 j hj, iv_len, if_pos (by rw [lrow]; exact hj), gf j hj]; rfl
      · rintro σ H2 ⟨y3, y4, y5, y6, y7, rfl, s2, fs, hf, lf, gf⟩
        refine ⟨.ref D, rfl, D, rfl, ⟨_, .inl (.inl hf)⟩, fun D2 nD2 => ?_⟩
        refine lc_acc (walk_list (xs := iv fs)) nD2 (by rw [iv_len]; omega) (fun i y _ => y = .int (g fs i % n)) (fun _ _ _ _ h _ => h) (fun H s3 => s3.seq (.inl (.inl hf)))
          (fun i x H3 H' hi s3 hD hy R' N qq => ?_) (fun H3 ys s3 hD3 hl hacc => ?_)
        · obtain ⟨rfl, hx⟩ := hy
          obtain ⟨hi2, rfl⟩ := iv_get hx
          exact ⟨rfl, yes_ok ⟨.int (g fs i), rfl, .int n, rfl, _, _, rfl, rfl, hn, qq _ _ (Same.refl _) rfl⟩⟩
        · refine q H3 D2 (s2.trans s3) (s2.free nD2) ?_
          rw [hD3]
          congr 2
          rw [iv_len] at hl
          refine iv_of hl hacc (by unfold LG.led; rw [md_len, passed_len, lf]) fun i hi => ?_
          unfold LG.led
          rw [g_md _ _ (by rw [passed_len]; omega), g_passed _ _ (by omega), gf i (by omega), iv_len]

/-! ### laid -/
structure CLaid (P : Program) (w : World) (K : PySem.W.Frag) (mg : Str → Option Value) (base : Heap) : Prop where
  led : Cal P w K mg base "led" ["amounts", "rates", "number"] (spLed K) 1
abbrev s_laid : Stmt := topS 22
theorem sc_laid : FnScope ["first", "second", "number", "amounts"] ["first", "second", "number"] (defScope s_laid) := ⟨rfl, rfl, rfl, by decide +kernel, rfl, by decide +kernel, by decide +kernel⟩
def spLaid (K : PySem.W.Frag) : Sp := fun vs H Q _ => ∃ (r a : Addr) (A R : Mx) (k : Nat) (n : Int), vs = [.ref a, .ref r, .int n] ∧ 0 < n ∧ MI K H r R ∧ MI K H a A ∧ Sqr k R ∧ Sqr k A ∧ k ≤ 100 ∧ BitsM 100000 A ∧ BitsM 100000 R ∧ RetM K Q H (LG.laid n A R)
theorem ok_laid (F : Fun K "laid" "laid" s_laid f fd) (B : Bi mg) (C : CLaid P w K mg base) : FnOk P w K mg base CX0 2 f fd ["first", "second", "number"] (spLaid K) := by
  refine F.ok sc_laid (fun vs H Q E h => ?_) (fun cdv A outer s H vs Q E hr h => ?_)
  · obtain ⟨r, a, A, R, k, n, rfl, _⟩ := h
    rfl
  · obtain ⟨r, a, M, R, k, n, rfl, hn, hR, hM, qR, qM, hk, bM, bR, q⟩ := h
    obtain ⟨as, a1, a2, a3⟩ := hM
    refine ⟨_, (pss_one (ps_ret (pe_lc (own := [("amounts", 3)]) (g := _) (tt := tYes) rfl sc_laid.nd (pi_list (pv 0)) (blkOk_by (N := ["first", "second", "number", "amounts"]) (sc := defScope s_laid) (by decide +kernel)) (fun _ _ _ _ _ => (pg_name (i := 3) sc_laid.nd rfl (.inl rfl))) (fun _ _ _ _ _ => pts_nil) (fun _ _ _ _ _ => (pe_cal C.led hr (by decide) (pa_cons (pv 3) (pa_cons (pv 1) (pa_cons (pv 2) pa_nil)))))))), ?_⟩
    refine ⟨.ref a, rfl, a, rfl, ⟨_, a1⟩, fun D nD => ?_⟩
    refine lc_acc (walk_list (xs := as.map V.ref)) nD (by rw [List.length_map, a2, qM.1]; omega) (fun i y H' => ∃ (p : Addr), y = .ref p ∧ p ≠ D ∧ H' p = some (.lst (iv (row (LG.laid n M R) i))))
      (fun i y H1 H2 h sx => by obtain ⟨p, e, n, hp⟩ := h; exact ⟨p, e, n, sx p _ n hp⟩) (fun H s1 => s1.seq a1)
      (fun i x H1 H' hi s1 hD hy R' N qq => ?_) (fun H1 ys s1 hD hl hacc => ?_)
    · obtain ⟨rfl, hx⟩ := hy
      rw [List.getElem?_map] at hx
      rw [List.length_map] at hi
      rw [List.getElem?_eq_getElem hi] at hx
      obtain rfl : V.ref as[i] = x := Option.some.inj hx
      obtain ⟨o, hD⟩ := hD
      have hiM : i < M.length := by omega
      refine ⟨rfl, yes_ok ?_⟩
      refine ⟨.ref as[i], rfl, .ref r, rfl, .int n, rfl, r, as[i], R, row M i, n, rfl, hn, s1.mi hR, s1.seq (a3 i _ (List.getElem?_eq_getElem hi)), ?_, ?_, bM i, bR, fun H2 z s2 nz hz => ?_⟩
      · rw [qM.2 i (by rw [← qM.1]; exact hiM)]; exact qR
      · rw [qM.2 i (by rw [← qM.1]; exact hiM)]; exact hk
      · refine qq _ _ s2 ⟨z, rfl, fun e => ?_, ?_⟩
        · rw [e, hD] at nz; cases nz
        · rw [hz]
          unfold LG.laid
          rw [row_map hiM]
    · rw [List.length_map] at hl
      have len : ys.length = (LG.laid n M R).length := by unfold LG.laid; rw [List.length_map, hl, a2]
      exact q H1 D s1 (mi_of (Z := fun p => p ≠ D) hD len fun i hi => by
        obtain ⟨p, e, n, hp⟩ := hacc i _ (List.getElem?_eq_getElem hi)
        exact ⟨p, by rw [List.getElem?_eq_getElem hi, e], n, hp⟩)
end
end LG

/-! ## W05 -/
set_option maxRecDepth 100000
set_option maxHeartbeats 4000000
namespace LG
open PySem PySem.Spec PyProof.Rows L2

theorem BkOK.bits {b : Bk} (h : BkOK b) (n : Nat) (hn : n ≤ 1000) : Bits 100000 (b.cnt n) := fun i => mono_pow (h.cnt_bits n i) (by omega)
theorem BkOK.bitsM {b : Bk} (h : BkOK b) : BitsM 100000 b.rates := fun t j => by
  have h1 := b.rate_nonneg t j
  have h2 := h.rate_le t j
  have h3 : (g (row b.rates t) j).natAbs < 2 ^ 3 := by
    show _ < 8
    omega
  exact mono_pow h3 (by decide)

section
variable {P : Program} {w : World} {K : PySem.W.Frag} {mg : Str → Option Value} {base : Heap} {f : Addr} {fd : FuncData}

/-! ### counts_from -/
structure CCountsFrom (P : Program) (w : World) (K : PySem.W.Frag) (mg : Str → Option Value) (base : Heap) : Prop where
  passed : Cal P w K mg base "passed" ["rates", "amounts"] (spPassed K) 1
abbrev s_counts_from : Stmt := topS 14
theorem sc_counts_from : FnScope ["rates", "amounts", "age", "step"] ["rates", "amounts", "age"] (defScope s_counts_from) := ⟨rfl, rfl, rfl, by decide +kernel, rfl, by decide +kernel, by decide +kernel⟩
def spCountsFrom (K : PySem.W.Frag) : Sp := fun vs H Q _ => ∃ (r a : Addr) (R : Mx) (xs : List Int) (n : Nat), vs = [.ref r, .ref a, .int n] ∧ MI K H r R ∧ SqL K H a (iv xs) ∧ Sqr xs.length R ∧ xs.length ≤ 100 ∧ n ≤ 1000 ∧ (∀ m, m ≤ n → Bits 100000 (LG.cnt R xs m)) ∧ BitsM 100000 R ∧ RetS K Q H (LG.cnt R xs n)
theorem ok_counts_from (F : Fun K "counts_from" "counts_from" s_counts_from f fd) (B : Bi mg) (C : CCountsFrom P w K mg base) : FnOk P w K mg base CX0 2 f fd ["rates", "amounts", "age"] (spCountsFrom K) := by
  refine F.ok sc_counts_from (fun vs H Q E h => ?_) (fun cdv A outer s H vs Q E hr h => ?_)
  · obtain ⟨r, a, R, xs, n, rfl, _⟩ := h
    rfl
  · obtain ⟨r, a, R, xs, n, rfl, hR, hA, hq, hk, hn, bx, bR, q⟩ := h
    refine ⟨_, (pss_cons (ps_for PassesOwn.never rfl (pi_range1 rfl B.range (pa_cons (pv 2) pa_nil)) (pg_name (i := 3) sc_counts_from.nd rfl (.inl rfl))
        (pss_one (ps_set (i := 1) sc_counts_from.nd rfl (.inl rfl) (pe_cal C.passed hr (by decide) (pa_cons (pv 0) (pa_cons (pv 1) pa_nil))))))
      (pss_one (ps_ret (pv 1)))), ?_⟩
    refine ⟨.int n, rfl, (n : Int), rfl, by omega, by omega, ?_⟩
    rw [Int.toNat_natCast]
    refine for_it (walk_range (lo := 0) (n := n)) (fun i σ H2 => ∃ a2 y3, σ = [some (.ref r), some (.ref a2), some (.int n), y3] ∧ Same H H2 ∧ SqL K H2 a2 (iv (LG.cnt R xs i))) ⟨a, _, rfl, Same.refl H, hA⟩ (fun _ _ _ _ _ => trivial) ?_ ?_
    · rintro i x σ H2 H3 hi ⟨a2, y3, rfl, s2, h2⟩ ⟨rfl, rfl⟩
      refine ⟨.ref r, rfl, .ref a2, rfl, r, a2, R, LG.cnt R xs i, rfl, s2.mi hR, h2, ?_, ?_, bx i (by omega), bR, fun H4 p s4 np hp => ?_⟩
      · rw [LG.cnt_len]; exact hq
      · rw [LG.cnt_len]; exact hk
      · exact ⟨p, _, rfl, s2.trans s4, .inl (.inl hp)⟩
    · rintro σ H2 ⟨a2, y3, rfl, s2, h2⟩
      exact ⟨.ref a2, rfl, q H2 a2 s2 h2⟩

/-! ### counts -/
structure CCounts (P : Program) (w : World) (K : PySem.W.Frag) (mg : Str → Option Value) (base : Heap) : Prop where
  need_age : Cal P w K mg base "need_age" ["age"] spNeedAge 2
  counts_from : Cal P w K mg base "counts_from" ["rates", "amounts", "age"] (spCountsFrom K) 2
  table : Cal P w K mg base "table" ["book"] (spTable K) 2
  tally : Cal P w K mg base "tally" ["signs", "text"] spTally 1
  letters : Cal P w K mg base "letters" ["book"] (spLetters K) 1
abbrev s_counts : Stmt := topS 15
theorem sc_counts : FnScope ["book", "age"] ["book", "age"] (defScope s_counts) := ⟨rfl, rfl, rfl, by decide +kernel, rfl, by decide +kernel, by decide +kernel⟩
def spCounts (K : PySem.W.Frag) : Sp := fun vs H Q _ => ∃ (a : Addr) (b : Bk) (n : Nat), vs = [.ref a, .int n] ∧ BookAt K H a b ∧ BkOK b ∧ n ≤ 300 ∧ RetS K Q H (b.cnt n)
theorem ok_counts (F : Fun K "counts" "counts" s_counts f fd) (B : Bi mg) (C : CCounts P w K mg base) : FnOk P w K mg base CX0 3 f fd ["book", "age"] (spCounts K) := by
  refine F.ok sc_counts (fun vs H Q E h => ?_) (fun cdv A outer s H vs Q E hr h => ?_)
  · obtain ⟨a, b, n, rfl, _⟩ := h
    rfl
  · obtain ⟨a, b, n, rfl, hb, ok, hn, q⟩ := h
    have k5 := ok.k
    refine ⟨_, (pss_cons (ps_expr (pe_cal C.need_age hr (by decide) (pa_cons (pv 1) pa_nil)))
      (pss_one (ps_ret (pe_cal C.counts_from hr (by decide) (pa_cons (pe_cal C.table hr (by decide) (pa_cons (pv 0) pa_nil)) (pa_cons (pe_cal C.tally hr (by decide) (pa_cons (pe_cal C.letters hr (by decide) (pa_cons (pv 0) pa_nil)) (pa_cons (pe_ix (r := rIxT K) ix_tup (pv 0) pe_int (fun _ _ => rfl)) pa_nil))) (pa_cons (pv 1) pa_nil))))))), ?_⟩
    refine ⟨.int n, rfl, (n : Int), rfl, by omega, by omega, ?_⟩
    refine ⟨.ref a, rfl, a, b, rfl, hb, by omega, fun H1 r s1 hR => ?_⟩
    refine ⟨.ref a, rfl, a, b, rfl, s1.book hb, by omega, fun H2 s2 => ?_⟩
    obtain ⟨t, rs, h1, h2, h3, h4⟩ := (s1.trans s2).book hb
    refine ⟨.ref a, rfl, a, _, 0, .str (sOf b.first), rfl, rfl, h1, atI_nat (j := 0) rfl, b.sg, b.first, rfl, by rw [List.length_map]; exact Nat.le_trans k5 (by decide), fun H3 p s3 np hp => ?_⟩
    refine ⟨.int n, rfl, r, p, b.rates, b.start, n, rfl, (s2.trans s3).mi hR, .inl (.inl hp), by rw [b.start_len]; exact b.sqr, by rw [b.start_len]; omega, by omega, fun m hm => ok.bits m (by omega), ok.bitsM, fun H4 z s4 hz => ?_⟩
    exact q H4 z (((s1.trans s2).trans s3).trans s4) hz

/-! ### length -/
structure CLength (P : Program) (w : World) (K : PySem.W.Frag) (mg : Str → Option Value) (base : Heap) : Prop where
  counts : Cal P w K mg base "counts" ["book", "age"] (spCounts K) 3
abbrev s_length : Stmt := topS 16
theorem sc_length : FnScope ["book", "age"] ["book", "age"] (defScope s_length) := ⟨rfl, rfl, rfl, by decide +kernel, rfl, by decide +kernel, by decide +kernel⟩
def spLength (K : PySem.W.Frag) : Sp := fun vs H Q _ => ∃ (a : Addr) (b : Bk) (n : Nat), vs = [.ref a, .int n] ∧ BookAt K H a b ∧ BkOK b ∧ n ≤ 300 ∧ ∀ H', Same H H' → Q (.int (b.cnt n).sum) H'
theorem ok_length (F : Fun K "length" "length" s_length f fd) (B : Bi mg) (C : CLength P w K mg base) : FnOk P w K mg base CX0 4 f fd ["book", "age"] (spLength K) := by
  refine F.ok sc_length (fun vs H Q E h => ?_) (fun cdv A outer s H vs Q E hr h => ?_)
  · obtain ⟨a, b, n, rfl, _⟩ := h
    rfl
  · obtain ⟨a, b, n, rfl, hb, ok, hn, q⟩ := h
    refine ⟨_, (pss_one (ps_ret (pe_callB (cr_sum rfl) (by rfl) B.sum (by decide +kernel) (pa_cons (pe_cal C.counts hr (by decide) (pa_cons (pv 0) (pa_cons (pv 1) pa_nil))) pa_nil)))), ?_⟩
    exact ⟨.ref a, rfl, .int n, rfl, a, b, n, rfl, hb, ok, hn, fun H1 p s1 hp => ⟨p, _, rfl, hp, q H1 s1⟩⟩

/-! ### need_far -/
structure MFar (mg : Str → Option Value) : Prop where
  FAR_AGE : ∃ t, mg "FAR_AGE" = some (.int (10 ^ 60) t)
  GREAT_NUMBER : ∃ t, mg "GREAT_NUMBER" = some (.int (10 ^ 30) t)
abbrev s_need_far : Stmt := topS 20
theorem sc_need_far : FnScope ["age", "number"] ["age", "number"] (defScope s_need_far) := ⟨rfl, rfl, rfl, by decide +kernel, rfl, by decide +kernel, by decide +kernel⟩
def spNeedFar : Sp := fun vs H Q _ => ∃ i j : Int, vs = [.int i, .int j] ∧ 0 ≤ i ∧ i < 10 ^ 60 ∧ 1 ≤ j ∧ j < 10 ^ 30 ∧ Q .non H
theorem ok_need_far (F : Fun K "need_far" "need_far" s_need_far f fd) (C : CNeedAge P w K mg base) (M : MFar mg) : FnOk P w K mg base CX0 2 f fd ["age", "number"] spNeedFar := by
  obtain ⟨_, m_FAR_AGE⟩ := M.FAR_AGE
  obtain ⟨_, m_GREAT_NUMBER⟩ := M.GREAT_NUMBER
  refine F.ok sc_need_far (fun vs H Q E h => ?_) (fun cdv A outer s H vs Q E hr h => ?_)
  · obtain ⟨i, j, rfl, _⟩ := h
    rfl
  · obtain ⟨i, j, rfl, h0, h1, h2, h3, q⟩ := h
    refine ⟨_, (pss_cons (ps_if (PW.pt (pw_or (pt_not (pt_val (pe_cal C.is_whole hr (by decide) (pa_cons (pv 0) pa_nil)))) (pw_or (pt_cmpR op_lt (pv 0) pe_int (nomark _)) (pw_or1 (pt_cmpR op_ge (pv 0) (pe_glob (v := .int (10 ^ 60)) (by rfl) m_FAR_AGE ⟨_, rfl⟩) (nomark _))))))
        (pss_one ps_never)
        pss_nil)
      (pss_one (ps_if (PW.pt (pw_or (pt_not (pt_val (pe_cal C.is_whole hr (by decide) (pa_cons (pv 1) pa_nil)))) (pw_or (pt_cmpR op_lt (pv 1) pe_int (nomark _)) (pw_or1 (pt_cmpR op_ge (pv 1) (pe_glob (v := .int (10 ^ 30)) (by rfl) m_GREAT_NUMBER ⟨_, rfl⟩) (nomark _))))))
        (pss_one ps_never)
        pss_nil))), ?_⟩
    refine ⟨.int i, rfl, i, rfl, true, rfl, iteF ?_⟩
    refine ⟨.int i, rfl, i, 0, rfl, rfl, _, rfl, ite2 (fun e => absurd (of_decide_eq_true e) (by omega)) fun _ => ?_⟩
    refine ⟨.int i, rfl, i, 10 ^ 60, rfl, rfl, _, rfl, ite2 (fun e => absurd (of_decide_eq_true e) (by omega)) fun _ => ?_⟩
    refine ⟨.int j, rfl, j, rfl, true, rfl, iteF ?_⟩
    refine ⟨.int j, rfl, j, 1, rfl, rfl, _, rfl, ite2 (fun e => absurd (of_decide_eq_true e) (by omega)) fun _ => ?_⟩
    exact ⟨.int j, rfl, j, 10 ^ 30, rfl, rfl, _, rfl, ite2 (fun e => absurd (of_decide_eq_true e) (by omega)) fun _ => q⟩
end
end LG

/-! ## W06 -/
set_option maxRecDepth 100000
set_option maxHeartbeats 4000000
namespace LG
open PySem PySem.Spec PyProof.Rows L2

theorem emod_bits {x N : Int} (h0 : 0 < N) (h1 : N < 10 ^ 30) : (x % N).natAbs < 2 ^ 100 := by
  have a := Int.emod_nonneg x (show N ≠ 0 by omega)
  have b := Int.emod_lt_of_pos x h0
  have e : (2 : Nat) ^ 100 = 1267650600228229401496703205376 := by decide
  rw [e]
  omega
theorem md_bits {N : Int} (h0 : 0 < N) (h1 : N < 10 ^ 30) (a : List Int) : Bits 100 (md N a) := fun i => by
  by_cases h : i < a.length
  · rw [g_md N a h]; exact emod_bits h0 h1
  · rw [g_ge (by rw [md_len]; omega)]; exact Nat.two_pow_pos _
theorem md_red {N : Int} (a : List Int) : ∀ i, i < (md N a).length → g (md N a) i % N = g (md N a) i := fun i hi => by
  rw [md_len] at hi
  rw [g_md N a hi]
  exact Int.emod_emod_of_dvd _ (Int.dvd_refl N)
theorem led_bits {N : Int} (h0 : 0 < N) (h1 : N < 10 ^ 30) (a : List Int) (R : Mx) : Bits 100 (led N a R) := md_bits h0 h1 _
theorem bitsM_map {e : Nat} {R : Mx} {f : List Int → List Int} (h : ∀ a, Bits e (f a)) : BitsM e (R.map f) := fun t i => by
  by_cases ht : t < R.length
  · rw [row_map ht]; exact h _ i
  · have : row (R.map f) t = [] := by
      unfold row
      rw [List.getD_eq_getElem?_getD, List.getElem?_eq_none (by rw [List.length_map]; omega)]; rfl
    rw [this, g_ge (by simp)]
    exact Nat.two_pow_pos _
theorem BitsM.mono {e e' : Nat} {R : Mx} (h : BitsM e R) (l : e ≤ e') : BitsM e' R := fun i => (h i).mono l
theorem sqr_map {k : Nat} {R : Mx} {f : List Int → List Int} (h : Sqr k R) (hf : ∀ a, (f a).length = a.length) : Sqr k (R.map f) :=
  ⟨by rw [List.length_map]; exact h.1, fun t ht => by rw [row_map (by rw [h.1]; exact ht), hf]; exact h.2 t ht⟩

section
variable {P : Program} {w : World} {K : PySem.W.Frag} {mg : Str → Option Value} {base : Heap} {f : Addr} {fd : FuncData}

/-! ### counts_at -/
structure CCountsAt (P : Program) (w : World) (K : PySem.W.Frag) (mg : Str → Option Value) (base : Heap) : Prop where
  need_far : Cal P w K mg base "need_far" ["age", "number"] spNeedFar 2
  table : Cal P w K mg base "table" ["book"] (spTable K) 2
  tally : Cal P w K mg base "tally" ["signs", "text"] spTally 1
  letters : Cal P w K mg base "letters" ["book"] (spLetters K) 1
  led : Cal P w K mg base "led" ["amounts", "rates", "number"] (spLed K) 1
  laid : Cal P w K mg base "laid" ["first", "second", "number"] (spLaid K) 2
abbrev s_counts_at : Stmt := topS 23
theorem sc_counts_at : FnScope ["book", "age", "number", "rates", "found", "amounts", "one"] ["book", "age", "number"] (defScope s_counts_at) := ⟨rfl, rfl, rfl, by decide +kernel, rfl, by decide +kernel, by decide +kernel⟩
def spCountsAt (K : PySem.W.Frag) : Sp := fun vs H Q _ => ∃ (a : Addr) (b : Bk) (n : Nat) (N : Int), vs = [.ref a, .int n, .int N] ∧ BookAt K H a b ∧ BkOK b ∧ (n : Int) < 10 ^ 60 ∧ 1 ≤ N ∧ N < 10 ^ 30 ∧ RetS K Q H (md N (b.cnt n))

structure PowInv (K : PySem.W.Frag) (H0 : Hp) (b : Bk) (n : Nat) (N : Int) (e : Nat) (r fo : Addr) (H : Hp) : Prop where
  same : Same H0 H
  ex : ∃ (R : Mx) (fs : List Int), MI K H r R ∧ SqL K H fo (iv fs) ∧ Sqr b.k R ∧ fs.length = b.k ∧ Bits 100 fs ∧ BitsM 100 R ∧ (∀ i, i < fs.length → g fs i % N = g fs i) ∧ Cong N (LG.cnt R fs e) (b.cnt n)

def ageOf (σ : L2.St) : Nat := natOf σ[1]?

theorem ok_counts_at (F : Fun K "counts_at" "counts_at" s_counts_at f fd) (B : Bi mg) (C : CCountsAt P w K mg base) : FnOk P w K mg base CX0 3 f fd ["book", "age", "number"] (spCountsAt K) := by
  refine F.ok sc_counts_at (fun vs H Q E h => ?_) (fun cdv A outer s H vs Q E hr h => ?_)
  · obtain ⟨a, b, n, N, rfl, _⟩ := h
    rfl
  · obtain ⟨a, b, n, N, rfl, hb, ok, hn, hN1, hN2, q⟩ := h
    have k5 := ok.k
    have hN0 : 0 < N := by omega
    refine ⟨_, (pss_cons (ps_expr (pe_cal C.need_far hr (by decide) (pa_cons (pv 1) (pa_cons (pv 2) pa_nil))))
      (pss_cons (ps_setLc (i := 3) (own := [("amounts", 5)]) (g := _) (tt := tYes) rfl sc_counts_at.nd rfl rfl (sw_true rfl rfl rfl (by decide +kernel)) (pi_list (pe_cal C.table hr (by decide) (pa_cons (pv 0) pa_nil))) (blkOk_by (N := ["book", "age", "number", "rates", "found", "amounts", "one"]) (sc := defScope s_counts_at) (by decide +kernel)) (fun _ _ _ _ _ => (pg_name (i := 5) sc_counts_at.nd rfl (.inl rfl))) (fun _ _ _ _ _ => pts_nil) (fun _ _ _ _ _ => (pe_lc (own := [("one", 6)]) (g := _) (tt := tYes) rfl sc_counts_at.nd (show PI _ _ _ (iList K _) from pi_list (pv 5)) (blkOk_by (N := ["book", "age", "number", "rates", "found", "amounts", "one"]) (sc := relS _ (defScope s_counts_at)) (by decide +kernel)) (fun _ _ _ _ _ => (pg_name (i := 6) sc_counts_at.nd rfl (.inl rfl))) (fun _ _ _ _ _ => pts_nil) (fun _ _ _ _ _ => (pe_op op_mod (pv 6) (pv 2))))))
      (pss_cons (ps_setLc (i := 4) (own := [("one", 6)]) (g := _) (tt := tYes) rfl sc_counts_at.nd rfl rfl (sw_true rfl rfl rfl (by decide +kernel)) (pi_list (pe_cal C.tally hr (by decide) (pa_cons (pe_cal C.letters hr (by decide) (pa_cons (pv 0) pa_nil)) (pa_cons (pe_ix (r := rIxT K) ix_tup (pv 0) pe_int (fun _ _ => rfl)) pa_nil)))) (blkOk_by (N := ["book", "age", "number", "rates", "found", "amounts", "one"]) (sc := defScope s_counts_at) (by decide +kernel)) (fun _ _ _ _ _ => (pg_name (i := 6) sc_counts_at.nd rfl (.inl rfl))) (fun _ _ _ _ _ => pts_nil) (fun _ _ _ _ _ => (pe_op op_mod (pv 6) (pv 2))))
      (pss_cons (ps_while PassesOwn.never (pt_cmpR op_gt (pv 1) pe_int (nomark _))
        (C8.pss_cut (ps_if (pt_cmpR op_eq (pe_op op_mod (pv 1) pe_int) pe_int (nomark _))
          (pss_one (ps_set (i := 4) sc_counts_at.nd rfl (.inl rfl) (pe_cal C.led hr (by decide) (pa_cons (pv 4) (pa_cons (pv 3) (pa_cons (pv 2) pa_nil))))))
          pss_nil)
        (pss_cons (ps_set (i := 1) sc_counts_at.nd rfl (.inl rfl) (pe_op op_fdiv (pv 1) pe_int))
        (pss_one (ps_if (pt_cmpR op_gt (pv 1) pe_int (nomark _))
          (pss_one (ps_set (i := 3) sc_counts_at.nd rfl (.inl rfl) (pe_cal C.laid hr (by decide) (pa_cons (pv 3) (pa_cons (pv 3) (pa_cons (pv 2) pa_nil))))))
          pss_nil)))))
      (pss_one (ps_ret (pv 4))))))), ?_⟩
    refine ⟨.int n, rfl, .int N, rfl, n, N, rfl, by omega, hn, hN1, hN2, ?_⟩
    -- rates
    refine ⟨.ref a, rfl, a, b, rfl, hb, by omega, fun H1 r0 s1 hR => ?_⟩
    obtain ⟨as, a1, a2, a3⟩ := hR
    refine ⟨r0, rfl, ⟨_, a1⟩, fun D nD => ?_⟩
    refine lc_acc (walk_list (xs := as.map V.ref)) nD (by rw [List.length_map, a2, b.rates_len]; omega) (fun i y H' => ∃ (p : Addr), y = .ref p ∧ p ≠ D ∧ H' p = some (.lst (iv (row (b.rates.map (md N)) i))))
      (fun i y H1 H2 h sx => by obtain ⟨p, e, n, hp⟩ := h; exact ⟨p, e, n, sx p _ n hp⟩) (fun H s2 => s2.seq a1)
      (fun i x H2 H' hi s2 hD hy R' N' qq => ?_) (fun H2 ys s2 hD hl hacc => ?_)
    · obtain ⟨rfl, hx⟩ := hy
      rw [List.getElem?_map] at hx
      rw [List.length_map] at hi
      rw [List.getElem?_eq_getElem hi] at hx
      obtain rfl : V.ref as[i] = x := Option.some.inj hx
      obtain ⟨o, hD⟩ := hD
      have hrow := s2.seq (a3 i _ (List.getElem?_eq_getElem hi))
      have hib : i < b.rates.length := by omega
      refine ⟨rfl, yes_ok ?_⟩
      refine ⟨.ref as[i], rfl, as[i], rfl, ⟨_, hrow⟩, fun D2 nD2 => ?_⟩
      have n2 : D ≠ D2 := ne_of_none hD nD2
      refine lc_acc (walk_list (xs := iv (row b.rates i))) nD2 (by rw [iv_len, b.sqr.2 i (by rw [← b.rates_len]; exact hib)]; omega) (fun j y _ => y = .int (g (row b.rates i) j % N)) (fun _ _ _ _ h _ => h) (fun H s3 => s3.seq hrow)
        (fun j x H3 H4 hj s3 _ hy R2 N2 q2 => ?_) (fun H3 ys s3 hD3 hl hacc => ?_)
      · obtain ⟨rfl, hx⟩ := hy
        obtain ⟨hj2, rfl⟩ := iv_get hx
        exact ⟨rfl, yes_ok ⟨.int (g (row b.rates i) j), rfl, .int N, rfl, _, _, rfl, rfl, hN0, q2 _ _ (Same.refl _) rfl⟩⟩
      · refine qq _ _ s3 ⟨D2, rfl, n2.symm, ?_⟩
        rw [hD3, row_map hib]
        congr 2
        rw [iv_len] at hl
        exact iv_of hl hacc (md_len _ _) fun j hj => g_md _ _ hj
    rw [List.length_map] at hl
    have len : ys.length = (b.rates.map (md N)).length := by rw [List.length_map, hl, a2]
    have hM : MI K H2 D (b.rates.map (md N)) := mi_of (Z := fun p => p ≠ D) hD len fun i hi => by
      obtain ⟨p, e, n, hp⟩ := hacc i _ (List.getElem?_eq_getElem hi)
      exact ⟨p, by rw [List.getElem?_eq_getElem hi, e], n, hp⟩
    have s02 : Same H H2 := s1.trans s2
    -- found
    refine ⟨.ref a, rfl, a, b, rfl, s02.book hb, by omega, fun H3 s3 => ?_⟩
    obtain ⟨t, rs, h1, h2, h3, h4⟩ := (s02.trans s3).book hb
    refine ⟨.ref a, rfl, a, _, 0, .str (sOf b.first), rfl, rfl, h1, atI_nat (j := 0) rfl, b.sg, b.first, rfl, by rw [List.length_map]; exact Nat.le_trans k5 (by decide), fun H4 p s4 np hp => ?_⟩
    refine ⟨p, rfl, ⟨_, .inl (.inl hp)⟩, fun D3 nD3 => ?_⟩
    refine lc_acc (walk_list (xs := iv b.start)) nD3 (by rw [iv_len, b.start_len]; omega) (fun j y _ => y = .int (g b.start j % N)) (fun _ _ _ _ h _ => h) (fun H s5 => s5.seq (.inl (.inl hp)))
      (fun j x H5 H6 hj s5 _ hy R2 N2 q2 => ?_) (fun H5 ys s5 hD5 hl hacc => ?_)
    · obtain ⟨rfl, hx⟩ := hy
      obtain ⟨hj2, rfl⟩ := iv_get hx
      exact ⟨rfl, yes_ok ⟨.int (g b.start j), rfl, .int N, rfl, _, _, rfl, rfl, hN0, q2 _ _ (Same.refl _) rfl⟩⟩
    rw [iv_len] at hl
    have ef : ys = iv (md N b.start) := iv_of hl hacc (md_len _ _) fun j hj => g_md _ _ hj
    subst ef
    have s25 : Same H2 H5 := (s3.trans s4).trans s5
    have s05 : Same H H5 := s02.trans s25
    -- the loop
    refine while_by (fun σ H' => ∃ (e : Nat) (r fo : Addr) (y5 y6 : Option V), σ = [some (.ref a), some (.int e), some (.int N), some (.ref r), some (.ref fo), y5, y6] ∧ PowInv K H b n N e r fo H') (fun σ _ => ageOf σ) ?_ ?_ ?_
    · refine ⟨n, D, D3, _, _, rfl, s05, b.rates.map (md N), md N b.start, s25.mi hM, .inl (.inl hD5), sqr_map b.sqr (md_len N), ?_, md_bits hN0 hN2 _, bitsM_map (md_bits hN0 hN2), md_red _, ?_⟩
      · rw [md_len, b.start_len]
      · refine Cong.cnt (md_cong N _) (fun t j ht hj => ?_) n
        rw [md_len, b.start_len] at ht hj
        rw [row_map (by rw [b.rates_len]; exact ht)]
        exact (md_cong N _).2 j (by rw [md_len, b.sqr.2 t ht]; exact hj)
    · rintro σ H6 ⟨e, r, fo, y5, y6, rfl, ⟨s6, R, fs, hR, hf, qR, lf, bf, bR, red, cg⟩⟩
      refine ⟨.int e, rfl, e, 0, rfl, rfl, _, rfl, ite2 (fun h => ?_) (fun h => ?_)⟩
      · have e0 : 0 < e := by have := of_decide_eq_true h; omega
        have eq : (e : Int) % 2 = ((e % 2 : Nat) : Int) := by omega
        have ed : (e : Int) / 2 = ((e / 2 : Nat) : Int) := by omega
        refine ⟨fun σ' H' => ∃ (fo' : Addr) (fs' : List Int), σ' = [some (.ref a), some (.int e), some (.int N), some (.ref r), some (.ref fo'), y5, y6] ∧ Same H6 H' ∧ SqL K H' fo' (iv fs') ∧ fs'.length = b.k ∧ Bits 100 fs' ∧ (∀ i, i < fs'.length → g fs' i % N = g fs' i) ∧ Cong N fs' (LG.cnt R fs (e % 2)), ?_, ?_⟩
        · refine ⟨.int e, rfl, e, 2, rfl, rfl, (show (0 : Int) < 2 by decide), rfl, _, rfl, ite2 (fun h1 => ?_) (fun h1 => ?_)⟩
          · have e1 : e % 2 = 1 := by
              have := V.int.inj (of_decide_eq_true h1)
              omega
            refine ⟨.ref fo, rfl, .ref r, rfl, .int N, rfl, r, fo, R, fs, N, rfl, hN0, hR, hf, by rw [lf]; exact qR, by omega, bf.mono (by decide), bR.mono (by decide), fun H7 p7 s7 np7 hp7 => ?_⟩
            refine ⟨p7, _, rfl, s7, .inl (.inl hp7), by unfold LG.led; rw [md_len, passed_len, lf], led_bits hN0 hN2 _ _, md_red _, ?_⟩
            rw [e1]
            exact md_cong N _
          · have e1 : e % 2 = 0 := by
              have : ¬ ((e : Int) % 2 = 1) := fun h => h1 (decide_eq_true (by show V.int ((e : Int) % 2) = V.int 1; rw [h]))
              omega
            refine ⟨fo, fs, rfl, Same.refl _, hf, lf, bf, red, ?_⟩
            rw [e1]
            exact Cong.rfl'
        · rintro σ' H7 ⟨fo', fs', rfl, s7, hf', lf', bf', red', cg'⟩
          have cq := pow_turn (N := N) qR lf (e / 2) (e % 2) fs' cg'
          rw [show 2 * (e / 2) + e % 2 = e by omega] at cq
          refine ⟨.int e, rfl, e, 2, rfl, rfl, ⟨by decide, by decide⟩, ?_⟩
          refine ⟨.int ((e : Int) / 2), rfl, (e : Int) / 2, 0, rfl, rfl, _, rfl, ite2 (fun h => ?_) (fun h => ?_)⟩
          · refine ⟨.ref r, rfl, .ref r, rfl, .int N, rfl, r, r, R, R, b.k, N, rfl, hN0, s7.mi hR, s7.mi hR, qR, qR, by omega, bR.mono (by decide), bR.mono (by decide), fun H8 p8 s8 hp8 => ?_⟩
            refine ⟨⟨e / 2, p8, fo', _, _, by rw [← ed]; rfl, (s6.trans s7).trans s8, laid N R R, fs', hp8, s8.seq hf', laid_sqr qR, lf', bf', bitsM_map (fun a => led_bits hN0 hN2 a R), red', cq.trans cg⟩, ?_⟩
            show ((e : Int) / 2).natAbs < (e : Int).natAbs
            omega
          · have z : e / 2 = 0 := by
              have h' : ¬ ((0 : Int) < (e : Int) / 2) := fun hh => h (decide_eq_true hh)
              omega
            refine ⟨⟨e / 2, r, fo', _, _, by rw [← ed]; rfl, s6.trans s7, R, fs', s7.mi hR, hf', qR, lf', bf', bR, red', ?_⟩, ?_⟩
            · rw [z]
              have e1 : e % 2 = e := by omega
              rw [e1] at cg'
              exact cg'.trans cg
            · show ((e : Int) / 2).natAbs < (e : Int).natAbs
              omega
      · have z : e = 0 := by
          have h' : ¬ ((0 : Int) < (e : Int)) := fun hh => h (decide_eq_true hh)
          omega
        subst z
        refine ⟨.ref fo, rfl, q H6 fo s6 ?_⟩
        rw [← md_of_cong cg red]
        exact hf
    · rintro σ H Q Q' hQ ⟨v, h1, i, j, h2, h3, k, h4, h5⟩
      exact ⟨v, h1, i, j, h2, h3, k, h4, hQ _ _ h5⟩

/-! ### length_at -/
structure CLengthAt (P : Program) (w : World) (K : PySem.W.Frag) (mg : Str → Option Value) (base : Heap) : Prop where
  counts_at : Cal P w K mg base "counts_at" ["book", "age", "number"] (spCountsAt K) 3
abbrev s_length_at : Stmt := topS 24
theorem sc_length_at : FnScope ["book", "age", "number"] ["book", "age", "number"] (defScope s_length_at) := ⟨rfl, rfl, rfl, by decide +kernel, rfl, by decide +kernel, by decide +kernel⟩
def spLengthAt (K : PySem.W.Frag) : Sp := fun vs H Q _ => ∃ (a : Addr) (b : Bk) (n : Nat) (N : Int), vs = [.ref a, .int n, .int N] ∧ BookAt K H a b ∧ BkOK b ∧ (n : Int) < 10 ^ 60 ∧ 1 ≤ N ∧ N < 10 ^ 30 ∧ ∀ H', Same H H' → Q (.int ((b.cnt n).sum % N)) H'
theorem ok_length_at (F : Fun K "length_at" "length_at" s_length_at f fd) (B : Bi mg) (C : CLengthAt P w K mg base) : FnOk P w K mg base CX0 4 f fd ["book", "age", "number"] (spLengthAt K) := by
  refine F.ok sc_length_at (fun vs H Q E h => ?_) (fun cdv A outer s H vs Q E hr h => ?_)
  · obtain ⟨a, b, n, N, rfl, _⟩ := h
    rfl
  · obtain ⟨a, b, n, N, rfl, hb, ok, hn, h1, h2, q⟩ := h
    refine ⟨_, (pss_one (ps_ret (pe_op op_mod (pe_callB (cr_sum rfl) (by rfl) B.sum (by decide +kernel) (pa_cons (pe_cal C.counts_at hr (by decide) (pa_cons (pv 0) (pa_cons (pv 1) (pa_cons (pv 2) pa_nil)))) pa_nil)) (pv 2)))), ?_⟩
    refine ⟨.ref a, rfl, .int n, rfl, .int N, rfl, a, b, n, N, rfl, hb, ok, hn, h1, h2, fun H1 p s1 hp => ⟨p, _, rfl, hp, .int N, rfl, _, _, rfl, rfl, by omega, ?_⟩⟩
    have e := q H1 s1
    rw [← sum_emod] at e
    exact e
end
end LG

/-! ## W07 -/
set_option maxRecDepth 100000
set_option maxHeartbeats 4000000
namespace LG
open PySem PySem.Spec PyProof.Rows L2

theorem gcd_fmod (x y : Int) : Nat.gcd y.natAbs (x.fmod y).natAbs = Nat.gcd x.natAbs y.natAbs := by
  have e := Int.fmod_def x y
  apply Nat.dvd_antisymm
  · apply Nat.dvd_gcd
    · have h1 := Nat.gcd_dvd_left y.natAbs (x.fmod y).natAbs
      have h2 := Nat.gcd_dvd_right y.natAbs (x.fmod y).natAbs
      have h1' := Int.ofNat_dvd_left.mpr h1
      have h2' := Int.ofNat_dvd_left.mpr h2
      refine Int.ofNat_dvd_left.mp ?_
      have e2 : x.fmod y + y * x.fdiv y = x := by omega
      have h3 := Int.dvd_add h2' (Int.dvd_trans h1' (Int.dvd_mul_right y (x.fdiv y)))
      rw [e2] at h3
      exact h3
    · exact Nat.gcd_dvd_left _ _
  · apply Nat.dvd_gcd
    · exact Nat.gcd_dvd_right _ _
    · have h1 := Nat.gcd_dvd_left x.natAbs y.natAbs
      have h2 := Nat.gcd_dvd_right x.natAbs y.natAbs
      have h1' := Int.ofNat_dvd_left.mpr h1
      have h2' := Int.ofNat_dvd_left.mpr h2
      refine Int.ofNat_dvd_left.mp ?_
      rw [e]
      exact Int.dvd_sub h1' (Int.dvd_trans h2' (Int.dvd_mul_right _ _))
theorem fmod_less (x y : Int) (h : y ≠ 0) : (x.fmod y).natAbs < y.natAbs := by
  rw [Int.fmod_eq_emod]
  have h1 := Int.emod_nonneg x h
  have h2 := Int.emod_lt x h
  split
  · omega
  · rename_i hc
    rw [not_or] at hc
    have : x % y ≠ 0 := fun z => hc.2 (Int.dvd_of_emod_eq_zero z)
    omega

section
variable {P : Program} {w : World} {K : PySem.W.Frag} {mg : Str → Option Value} {base : Heap} {f : Addr} {fd : FuncData}

/-! ### common -/
abbrev s_common : Stmt := topS 27
theorem sc_common : FnScope ["one", "other"] ["one", "other"] (defScope s_common) := ⟨rfl, rfl, rfl, by decide +kernel, rfl, by decide +kernel, by decide +kernel⟩
def spCommon : Sp := fun vs H Q _ => ∃ i j : Int, vs = [.int i, .int j] ∧ Q (.int (Nat.gcd i.natAbs j.natAbs : Nat)) H
theorem ok_common (F : Fun K "common" "common" s_common f fd) (B : Bi mg) : FnOk P w K mg base CX0 1 f fd ["one", "other"] spCommon := by
  refine F.ok sc_common (fun vs H Q E h => ?_) (fun cdv A outer s H vs Q E hr h => ?_)
  · obtain ⟨i, j, rfl, _⟩ := h
    rfl
  · obtain ⟨i, j, rfl, q⟩ := h
    refine ⟨_, (pss_cons (ps_while PassesOwn.never (pt_cmpR op_ne (pv 1) pe_int (nomark _))
        (pss_one (ps_par (i := 0) (j := 1) (by rfl) sc_common.nd rfl rfl (by decide) rfl rfl (pa_cons (pv 1) (pa_cons (pe_op op_modN (pv 0) (pv 1)) pa_nil)) (by rfl))))
      (pss_one (ps_ret (pe_callB call_abs (by rfl) B.abs (by decide +kernel) (pa_cons (pv 0) pa_nil))))), ?_⟩
    refine while_by (fun σ H' => ∃ x y : Int, σ = [some (.int x), some (.int y)] ∧ H' = H ∧ Nat.gcd x.natAbs y.natAbs = Nat.gcd i.natAbs j.natAbs) (fun σ _ => natOf σ[1]?) ⟨i, j, rfl, rfl, rfl⟩ ?_ ?_
    · rintro σ H' ⟨x, y, rfl, rfl, hg⟩
      refine ⟨.int y, rfl, rfl, _, rfl, ?_⟩
      by_cases hy : V.int y = V.int 0
      · rw [decide_eq_true hy]
        refine iteF ?_
        have hy0 : y = 0 := V.int.inj hy
        subst hy0
        refine ⟨.int x, rfl, x, rfl, ?_⟩
        have e : (if x < 0 then -x else x) = ((Nat.gcd i.natAbs j.natAbs : Nat) : Int) := by
          rw [← hg]
          show _ = ((Nat.gcd x.natAbs 0 : Nat) : Int)
          rw [Nat.gcd_zero_right]
          split <;> omega
        show Q (.int (if x < 0 then -x else x)) H'
        rw [e]
        exact q
      · rw [decide_eq_false hy]
        refine iteT ?_
        have hy0 : y ≠ 0 := fun z => hy (by rw [z])
        refine ⟨.int y, rfl, .int x, rfl, .int y, rfl, x, y, rfl, rfl, hy0, _, _, rfl, ⟨y, x.fmod y, rfl, rfl, ?_⟩, ?_⟩
        · rw [gcd_fmod]; exact hg
        · exact fmod_less x y hy0
    · rintro σ H Q Q' hQ ⟨v, h1, h2, k, h4, h5⟩
      exact ⟨v, h1, h2, k, h4, hQ _ _ h5⟩

/-! ### lowered -/
structure CLowered (P : Program) (w : World) (K : PySem.W.Frag) (mg : Str → Option Value) (base : Heap) : Prop where
  common : Cal P w K mg base "common" ["one", "other"] spCommon 1
abbrev s_lowered : Stmt := topS 28
theorem sc_lowered : FnScope ["numbers", "part", "number"] ["numbers"] (defScope s_lowered) := ⟨rfl, rfl, rfl, by decide +kernel, rfl, by decide +kernel, by decide +kernel⟩
def spLowered (K : PySem.W.Frag) : Sp := fun vs H Q _ => ∃ (a : Addr) (xs : List Int), vs = [.ref a] ∧ SqL K H a (iv xs) ∧ xs.length ≤ 1000 ∧ Bits 8000 xs ∧ RetF K Q H a (LG.lowered xs)
theorem ok_lowered (F : Fun K "lowered" "lowered" s_lowered f fd) (B : Bi mg) (C : CLowered P w K mg base) : FnOk P w K mg base CX0 2 f fd ["numbers"] (spLowered K) := by
  refine F.ok sc_lowered (fun vs H Q E h => ?_) (fun cdv A outer s H vs Q E hr h => ?_)
  · obtain ⟨a, xs, rfl, _⟩ := h
    rfl
  · obtain ⟨a, xs, rfl, hA, hl, hb, q⟩ := h
    refine ⟨_, (pss_cons (ps_set (i := 1) sc_lowered.nd rfl (.inr rfl) pe_int)
      (pss_cons (ps_for PassesOwn.never rfl (pi_list (pv 0)) (pg_name (i := 2) sc_lowered.nd rfl (.inl rfl))
        (pss_one (ps_set (i := 1) sc_lowered.nd rfl (.inr rfl) (pe_cal C.common hr (by decide) (pa_cons (pv 1) (pa_cons (pv 2) pa_nil))))))
      (pss_cons (ps_if (pt_cmpR op_lt (pv 1) pe_int (nomark _))
        (pss_one (ps_ret (pv 0)))
        pss_nil)
      (pss_one (ps_ret (pe_lc (own := [("number", 2)]) (g := _) (tt := tYes) rfl sc_lowered.nd (pi_list (pv 0)) (blkOk_by (N := ["numbers", "part", "number"]) (sc := defScope s_lowered) (by decide +kernel)) (fun _ _ _ _ _ => (pg_name (i := 2) sc_lowered.nd rfl (.inl rfl))) (fun _ _ _ _ _ => pts_nil) (fun _ _ _ _ _ => (pe_op op_fdivW (pv 2) (pv 1))))))))), ?_⟩
    refine ⟨.ref a, rfl, a, rfl, ⟨_, hA⟩, ?_⟩
    refine for_it (walk_list (xs := iv xs)) (fun i σ H' => ∃ y2, σ = [some (.ref a), some (.int ((gcdL (xs.take i) : Nat) : Int)), y2] ∧ H' = H) ⟨none, rfl, rfl⟩ (fun i σ H' _ h => by obtain ⟨_, _, rfl⟩ := h; exact hA) ?_ ?_
    · rintro i x σ H2 H3 hi ⟨y2, rfl, rfl⟩ ⟨rfl, hx⟩
      obtain ⟨hi2, rfl⟩ := iv_get hx
      refine ⟨_, rfl, .int (g xs i), rfl, _, _, rfl, ⟨some (.int (g xs i)), ?_, rfl⟩⟩
      have e : gcdL (xs.take (i + 1)) = Nat.gcd (gcdL (xs.take i)) (g xs i).natAbs := by
        unfold gcdL
        rw [List.take_add_one, some_g hi2, List.foldl_append]; rfl
      rw [e]
      rfl
    · rintro σ H2 ⟨y2, rfl, rfl⟩
      rw [iv_len, List.take_length]
      refine ⟨_, rfl, _, _, rfl, rfl, _, rfl, ite2 (fun h => ?_) (fun h => ?_)⟩
      · have h2 : ((gcdL xs : Nat) : Int) < 2 := of_decide_eq_true h
        refine ⟨.ref a, rfl, q H2 a (Same.refl _) (.inl rfl) ?_⟩
        unfold LG.lowered
        rw [if_pos h2]
        exact hA
      · have h2 : ¬ ((gcdL xs : Nat) : Int) < 2 := fun z => h (decide_eq_true z)
        have small : (((gcdL xs : Nat) : Int)).natAbs < 2 ^ 8000 := by
          apply Classical.byContradiction
          intro hn
          have allz : ∀ x, x ∈ xs → x = 0 := g_mem fun i hi => by
            apply Classical.byContradiction
            intro hx
            have d := gcdL_dvd (xs := xs) (x := g xs i) (by rw [g_lt hi]; exact List.getElem_mem hi)
            have d2 := Nat.le_of_dvd (by omega) (Int.ofNat_dvd_left.mp d)
            have := hb i
            rw [Int.natAbs_natCast] at hn
            omega
          have : 2 ∣ gcdL xs := dvd_gcdL (d := 2) fun x hx => by rw [allz x hx]; exact Int.dvd_zero _
          have d3 : 3 ∣ gcdL xs := dvd_gcdL (d := 3) fun x hx => by rw [allz x hx]; exact Int.dvd_zero _
          have d4 : (gcdL xs + 1) ∣ gcdL xs := dvd_gcdL (d := gcdL xs + 1) fun x hx => by rw [allz x hx]; exact Int.dvd_zero _
          have := Nat.le_of_dvd (by omega) d4
          omega
        refine ⟨.ref a, rfl, a, rfl, ⟨_, hA⟩, fun D nD => ?_⟩
        refine lc_acc (walk_list (xs := iv xs)) nD (by rw [iv_len]; omega) (fun i y _ => y = .int (g xs i / ((gcdL xs : Nat) : Int))) (fun _ _ _ _ h _ => h) (fun H s1 => s1.seq hA)
          (fun i x H3 H' hi s1 hD hy R' N qq => ?_) (fun H3 ys s1 hD hl hacc => ?_)
        · obtain ⟨rfl, hx⟩ := hy
          obtain ⟨hi2, rfl⟩ := iv_get hx
          exact ⟨rfl, yes_ok ⟨.int (g xs i), rfl, _, rfl, _, _, rfl, rfl, wide_div (by omega) small (by decide) (by decide), qq _ _ (Same.refl _) rfl⟩⟩
        · rw [iv_len] at hl
          refine q H3 D s1 (.inr nD) (.inl (.inl ?_))
          rw [hD]
          congr 2
          unfold LG.lowered
          rw [if_neg h2]
          exact iv_of hl hacc (List.length_map _) fun i hi => g_map hi

/-! ### lead_of -/
abbrev s_lead_of : Stmt := topS 29
theorem sc_lead_of : FnScope ["numbers", "at"] ["numbers"] (defScope s_lead_of) := ⟨rfl, rfl, rfl, by decide +kernel, rfl, by decide +kernel, by decide +kernel⟩
def spLeadOf (K : PySem.W.Frag) : Sp := fun vs H Q _ => ∃ (a : Addr) (xs : List Int), vs = [.ref a] ∧ SqL K H a (iv xs) ∧ xs.length ≤ 1000 ∧ (∀ i : Nat, i < xs.length → g xs i ≠ 0 → Q (.int i) H) ∧ ((∀ i, i < xs.length → g xs i = 0) → Q (.int (-1)) H)
theorem ok_lead_of (F : Fun K "lead_of" "lead_of" s_lead_of f fd) (B : Bi mg) : FnOk P w K mg base CX0 1 f fd ["numbers"] (spLeadOf K) := by
  refine F.ok sc_lead_of (fun vs H Q E h => ?_) (fun cdv A outer s H vs Q E hr h => ?_)
  · obtain ⟨a, xs, rfl, _⟩ := h
    rfl
  · obtain ⟨a, xs, rfl, hA, hl, q1, q2⟩ := h
    refine ⟨_, (pss_cons (ps_for PassesOwn.never rfl (pi_range1 rfl B.range (pa_cons (pe_callB (r := rLenSeq K) call_len_seq (by rfl) B.len (by decide +kernel) (pa_cons (pv 0) pa_nil)) pa_nil)) (pg_name (i := 1) sc_lead_of.nd rfl (.inl rfl))
        (pss_one (ps_if (pt_cmpR op_ne (pe_ix (r := rIxL K) ix_list (pv 0) (pv 1) (fun _ _ => rfl)) pe_int (nomark _))
          (pss_one (ps_ret (pv 1)))
          pss_nil)))
      (pss_one (ps_ret (pe_un un_neg pe_int)))), ?_⟩
    refine ⟨.ref a, rfl, a, iv xs, rfl, .inl hA, ((iv xs).length : Int), rfl, by rw [iv_len]; omega, by rw [iv_len]; omega, ?_⟩
    rw [Int.toNat_natCast]
    refine for_it (walk_range (lo := 0) (n := (iv xs).length)) (fun i σ H' => ∃ y1, σ = [some (.ref a), y1] ∧ H' = H ∧ ∀ j, j < i → g xs j = 0) ⟨none, rfl, rfl, fun j hj => by omega⟩ (fun _ _ _ _ _ => trivial) ?_ ?_
    · rintro i x σ H2 H3 hi ⟨y1, rfl, rfl, hz⟩ ⟨rfl, ex⟩
      rw [iv_len] at hi
      obtain rfl : x = .int i := by rw [ex]; exact congrArg V.int (Int.zero_add _)
      refine ⟨.ref a, rfl, .int i, rfl, a, _, i, _, rfl, rfl, hA, atI_iv hi, rfl, _, rfl, ?_⟩
      by_cases h0 : V.int (g xs i) = V.int 0
      · rw [decide_eq_true h0]
        refine iteF ⟨_, rfl, rfl, fun j hj => ?_⟩
        by_cases ej : j = i
        · subst ej; exact V.int.inj h0
        · exact hz j (by omega)
      · rw [decide_eq_false h0]
        exact iteT ⟨.int i, rfl, q1 i hi fun z => h0 (by rw [z])⟩
    · rintro σ H2 ⟨y1, rfl, rfl, hz⟩
      rw [iv_len] at hz
      exact ⟨1, rfl, q2 hz⟩

/-! ### cleared -/
/-- kept rows in the heap -/
def KeptH (K : PySem.W.Frag) (H : Hp) (a : Addr) (kept : List (Nat × List Int)) : Prop := ∃ rs : List Addr, SqL K H a (rs.map V.ref) ∧ rs.length = kept.length ∧
  ∀ (i : Nat) (r : Addr), rs[i]? = some r → ∃ p : Addr, SqT K H r [.int (keL kept i : Nat), .ref p] ∧ SqL K H p (iv (kept.getD i (0, [])).2)
theorem _root_.L2.Same.keptH {K : PySem.W.Frag} {H H' : Hp} {a : Addr} {kept : List (Nat × List Int)} (e : Same H H') (h : KeptH K H a kept) : KeptH K H' a kept := by
  obtain ⟨rs, h1, h2, h3⟩ := h
  exact ⟨rs, e.seq h1, h2, fun i r hr => by obtain ⟨p, p1, p2⟩ := h3 i r hr; exact ⟨p, e.seqT p1, e.seq p2⟩⟩
structure CCleared (P : Program) (w : World) (K : PySem.W.Frag) (mg : Str → Option Value) (base : Heap) : Prop where
  lowered : Cal P w K mg base "lowered" ["numbers"] (spLowered K) 2
abbrev s_cleared : Stmt := topS 30
theorem sc_cleared : FnScope ["numbers", "kept", "lead", "base", "here", "a", "b"] ["numbers", "kept"] (defScope s_cleared) := ⟨rfl, rfl, rfl, by decide +kernel, rfl, by decide +kernel, by decide +kernel⟩
def spCleared (K : PySem.W.Frag) : Sp := fun vs H Q _ => ∃ (a k : Addr) (y : List Int) (kept : List (Nat × List Int)) (v : Nat → Nat → Int) (wd m : Nat), vs = [.ref a, .ref k] ∧ SqL K H a (iv y) ∧ KeptH K H k kept ∧
  KeptAt v wd m kept ∧ ClearAt v wd m kept 0 y ∧ kept.length < m ∧ wd + m ≤ 100 ∧ kept.length ≤ 10 ∧ RetF K Q H a (LG.cleared y kept)
theorem ok_cleared (F : Fun K "cleared" "cleared" s_cleared f fd) (B : Bi mg) (C : CCleared P w K mg base) : FnOk P w K mg base CX0 3 f fd ["numbers", "kept"] (spCleared K) := by
  refine F.ok sc_cleared (fun vs H Q E h => ?_) (fun cdv A outer s H vs Q E hr h => ?_)
  · obtain ⟨a, k, y, kept, v, wd, m, rfl, _⟩ := h
    rfl
  · obtain ⟨a, k, y, kept, v, wd, m, rfl, hA, hK, hk, hc, hm, hw, h10, q⟩ := h
    obtain ⟨rs, k1, k2, k3⟩ := hK
    refine ⟨_, (pss_cons (ps_for PassesOwn.never rfl (pi_list (pv 1)) (pg_tup rfl (pgs_cons (pg_name (i := 2) sc_cleared.nd rfl (.inr rfl)) (pgs_cons (pg_name (i := 3) sc_cleared.nd rfl (.inr rfl)) pgs_nil)))
        (pss_cons (ps_set (i := 4) sc_cleared.nd rfl (.inr rfl) (pe_ix (r := rIxL K) ix_list (pv 0) (pv 2) (fun _ _ => rfl)))
        (pss_one (ps_if (pt_cmpR op_ne (pv 4) pe_int (nomark _))
          (pss_one (ps_set (i := 0) sc_cleared.nd rfl (.inl rfl) (pe_cal C.lowered hr (by decide) (pa_cons (pe_lc (own := [("a", 5), ("b", 6)]) (g := _) (tt := tYes) rfl sc_cleared.nd (pi_zip (by rfl) B.zip (pa_cons (pv 0) (pa_cons (pv 3) pa_nil))) (blkOk_by (N := ["numbers", "kept", "lead", "base", "here", "a", "b"]) (sc := defScope s_cleared) (by decide +kernel)) (fun _ _ _ _ _ => (show PG _ _ (gTup K 2 _) from pg_tup rfl (pgs_cons (pg_name (i := 5) sc_cleared.nd rfl (.inl rfl)) (pgs_cons (pg_name (i := 6) sc_cleared.nd rfl (.inl rfl)) pgs_nil)))) (fun _ _ _ _ _ => pts_nil) (fun _ _ _ _ _ => (pe_op op_sub (pe_op op_mulW (pe_ix (r := rIxL K) ix_list (pv 3) (pv 2) (fun _ _ => rfl)) (pv 5)) (pe_op op_mulW (pv 4) (pv 6))))) pa_nil))))
          pss_nil))))
      (pss_one (ps_ret (pv 0)))), ?_⟩
    refine ⟨.ref k, rfl, k, rfl, ⟨_, k1⟩, ?_⟩
    refine for_it (walk_list (xs := rs.map V.ref)) (fun i σ H' => ∃ a' y2 y3 y4 y5 y6, σ = [some (.ref a'), some (.ref k), y2, y3, y4, y5, y6] ∧ Same H H' ∧ (a' = a ∨ H a' = none) ∧ SqL K H' a' (iv (LG.cleared y (kept.take i))))
      ⟨a, _, _, _, _, _, rfl, Same.refl _, .inl rfl, hA⟩ (fun i σ H' _ h => by obtain ⟨_, _, _, _, _, _, _, s1, _⟩ := h; exact s1.seq k1) ?_ ?_
    · rintro i x σ H2 H3 hi ⟨a', y2, y3, y4, y5, y6, rfl, s2, nw, hA'⟩ ⟨rfl, hx⟩
      rw [List.length_map, k2] at hi
      rw [List.getElem?_map, List.getElem?_eq_getElem (by rw [k2]; exact hi)] at hx
      obtain rfl : V.ref rs[i] = x := Option.some.inj hx
      obtain ⟨p, p1, p2⟩ := k3 i rs[i] (List.getElem?_eq_getElem _)
      have ci := clear_all hk hm hc i (by omega)
      have rw1 := hk.row i hi
      have ldw := hk.ld i hi
      have tk := cleared_take y kept hi
      unfold clearOne at tk
      have sz2 : ∀ j, (g (LG.cleared y (kept.take i)) j).natAbs < 2 ^ 7500 := fun j => mono_pow (ci.sz j) (by
        unfold cc
        have : 2 ^ i ≤ 2 ^ 10 := Nat.pow_le_pow_right (by omega) (by omega)
        omega)
      have sz1 : ∀ j, (g (kept.getD i (0, [])).2 j).natAbs < 2 ^ 7200 := fun j => mono_pow (hk.sz i hi j) (by
        unfold bb
        have : 2 ^ i ≤ 2 ^ 10 := Nat.pow_le_pow_right (by omega) (by omega)
        omega)
      have szz := clear_step hk hi hm ci
      have eb : cc kept.length (i + 1) = bb i + cc kept.length i + 1 := by
        unfold cc bb
        have : 1 ≤ 2 ^ i := Nat.one_le_two_pow
        have e2 : 2 ^ (i + 1) = 2 ^ i * 2 := Nat.pow_succ ..
        omega
      have eb2 : bb i + cc kept.length i + 1 ≤ 8000 := by
        rw [← eb]
        unfold cc
        have : 2 ^ (i + 1) ≤ 2 ^ 10 := Nat.pow_le_pow_right (by omega) (by omega)
        omega
      have l1 := ci.row.len
      have l2 := rw1.len
      generalize hz : LG.cleared y (kept.take i) = z at *
      generalize hb : (kept.getD i (0, [])).2 = bs at *
      refine ⟨rs[i], _, rfl, s2.seqT p1, rfl, _, _, rfl, _, _, rfl, rfl, ?_⟩
      refine ⟨.ref a', rfl, .int (keL kept i : Nat), rfl, a', _, _, _, rfl, rfl, hA', atI_iv (by omega), ?_⟩
      refine ⟨.int (g z (keL kept i)), rfl, rfl, _, rfl, ?_⟩
      by_cases h0 : V.int (g z (keL kept i)) = V.int 0
      · rw [decide_eq_true h0]
        refine iteF ⟨a', _, _, _, _, _, rfl, s2, nw, ?_⟩
        rw [tk, if_neg (fun hh => hh (V.int.inj h0))]
        exact hA'
      · rw [decide_eq_false h0]
        refine iteT ?_
        have hne : g z (keL kept i) ≠ 0 := fun hh => h0 (by rw [hh])
        rw [if_pos hne] at tk
        refine ⟨.ref a', rfl, .ref p, rfl, a', p, iv z, iv bs, rfl, hA', s2.seq p2, fun D nD => ?_⟩
        refine lc_acc (walk_zip (n := wd + m) (by rw [iv_len, iv_len]; omega)) nD (by omega) (fun j y _ => y = .int (g bs (keL kept i) * g z j - g z (keL kept i) * g bs j)) (fun _ _ _ _ h _ => h) (fun H s3 => ⟨s3.seq hA', s3.seq (s2.seq p2)⟩)
          (fun j x H4 H5 hj s4 hD hy R' N qq => ?_) (fun H4 ys s4 hD hl hacc => ?_)
        · obtain ⟨T, u1, u2, rfl, nT, rfl, e1, e2⟩ := hy
          obtain ⟨hj1, rfl⟩ := iv_get e1
          obtain ⟨hj2, rfl⟩ := iv_get e2
          have sT : Same H4 (upd H4 T (.tup [.int (g z j), .int (g bs j)])) := same_upd nT
          refine ⟨T, _, rfl, .inl (.inl upd_same), rfl, _, _, rfl, _, _, rfl, rfl, rfl, yes_ok ?_⟩
          refine ⟨.ref p, rfl, .int (keL kept i : Nat), rfl, p, _, _, _, rfl, rfl, (sT.seq (s4.seq (s2.seq p2))), atI_iv (by omega), .int (g z j), rfl, _, _, rfl, rfl, wide_mul (sz1 _) (sz2 _) (by decide) (by decide) (by decide), ?_⟩
          exact ⟨.int (g z (keL kept i)), rfl, .int (g bs j), rfl, _, _, rfl, rfl, wide_mul (sz2 _) (sz1 _) (by decide) (by decide) (by decide), _, _, rfl, rfl, qq _ _ sT rfl⟩
        · have ez : ys = iv (List.zipWith (fun a c => g bs (keL kept i) * a - g z (keL kept i) * c) z bs) := iv_of hl hacc (by rw [List.length_zipWith]; omega) fun j hj => by
            rw [g_zip (by omega) (by omega)]
          rw [ez] at hD
          refine ⟨D, _, rfl, .inl (.inl hD), by rw [List.length_zipWith]; omega, fun j => ?_, fun H5 p5 s5 np5 hp5 => ?_⟩
          · by_cases hj : j < wd + m
            · rw [g_zip (by omega) (by omega)]
              exact mono_pow (bits_step (hk.sz i hi _ |> fun h => by rw [hb] at h; exact h) (ci.sz _) (ci.sz _) (hk.sz i hi _ |> fun h => by rw [hb] at h; exact h)) eb2
            · rw [g_ge (by rw [List.length_zipWith]; omega)]
              exact Nat.two_pow_pos _
          · refine ⟨p5, _, _, _, _, _, rfl, (s2.trans s4).trans s5, .inr ?_, ?_⟩
            · rcases np5 with e | e
              · rw [e]; exact s2.free nD
              · exact (s2.trans s4).free e
            rw [tk]
            exact hp5
    · rintro σ H2 ⟨a', y2, y3, y4, y5, y6, rfl, s2, nw, hA'⟩
      rw [List.length_map, k2, List.take_length] at hA'
      exact ⟨.ref a', rfl, q H2 a' s2 nw hA'⟩
end
end LG

/-! ## W08 -/
set_option maxRecDepth 100000
set_option maxHeartbeats 4000000
namespace LG
open PySem PySem.Spec PyProof.Rows L2

/-- counts at the first ages -/
def Bk.firsts (b : Bk) (m : Nat) : Mx := (List.range m).map b.cnt
def joints (b c : Bk) (m : Nat) : Mx := (List.range m).map fun n => b.cnt n ++ c.cnt n
theorem row_range {f : Nat → List Int} {m i : Nat} (h : i < m) : row ((List.range m).map f) i = f i := by
  unfold row
  rw [List.getD_eq_getElem?_getD, List.getElem?_map, List.getElem?_range h]; rfl
theorem cut_take (xs : List V) (n : Nat) : cutV xs none (some (n : Int)) = xs.take n := by
  unfold cutV
  rw [HT.sIx_none, show HT.sIx xs.length xs.length (some (n : Int)) = min n xs.length from HT.sIx_nat xs.length _ n]
  rw [List.drop_zero, Nat.sub_zero]
  by_cases h : n ≤ xs.length
  · rw [Nat.min_eq_left h]
  · rw [Nat.min_eq_right (by omega), List.take_length, List.take_of_length_le (by omega)]

section
variable {P : Program} {w : World} {K : PySem.W.Frag} {mg : Str → Option Value} {base : Heap} {f : Addr} {fd : FuncData}

/-! ### first_counts -/
structure CFirstCounts (P : Program) (w : World) (K : PySem.W.Frag) (mg : Str → Option Value) (base : Heap) : Prop where
  table : Cal P w K mg base "table" ["book"] (spTable K) 2
  tally : Cal P w K mg base "tally" ["signs", "text"] spTally 1
  letters : Cal P w K mg base "letters" ["book"] (spLetters K) 1
  passed : Cal P w K mg base "passed" ["rates", "amounts"] (spPassed K) 1
abbrev s_first_counts : Stmt := topS 32
theorem sc_first_counts : FnScope ["book", "many", "rates", "amounts", "found", "step"] ["book", "many"] (defScope s_first_counts) := ⟨rfl, rfl, rfl, by decide +kernel, rfl, by decide +kernel, by decide +kernel⟩
def spFirstCounts (K : PySem.W.Frag) : Sp := fun vs H Q _ => ∃ (a : Addr) (b : Bk) (m : Nat), vs = [.ref a, .int m] ∧ BookAt K H a b ∧ BkOK b ∧ m ≤ 300 ∧ RetP Q H (b.firsts m)
theorem ok_first_counts (F : Fun K "first_counts" "first_counts" s_first_counts f fd) (B : Bi mg) (C : CFirstCounts P w K mg base) : FnOk P w K mg base CX0 3 f fd ["book", "many"] (spFirstCounts K) := by
  refine F.ok sc_first_counts (fun vs H Q E h => ?_) (fun cdv A outer s H vs Q E hr h => ?_)
  · obtain ⟨a, b, m, rfl, _⟩ := h
    rfl
  · obtain ⟨a, b, m, rfl, hb, ok, hm, q⟩ := h
    have k5 := ok.k
    refine ⟨_, (pss_cons (ps_set (i := 2) sc_first_counts.nd rfl (.inl rfl) (pe_cal C.table hr (by decide) (pa_cons (pv 0) pa_nil)))
      (pss_cons (ps_set (i := 3) sc_first_counts.nd rfl (.inl rfl) (pe_cal C.tally hr (by decide) (pa_cons (pe_cal C.letters hr (by decide) (pa_cons (pv 0) pa_nil)) (pa_cons (pe_ix (r := rIxT K) ix_tup (pv 0) pe_int (fun _ _ => rfl)) pa_nil))))
      (pss_cons (ps_set (i := 4) sc_first_counts.nd rfl (.inl rfl) (pe_lst pa_nil))
      (pss_cons (ps_for PassesOwn.never rfl (pi_range1 rfl B.range (pa_cons (pv 1) pa_nil)) (pg_name (i := 5) sc_first_counts.nd rfl (.inl rfl))
        (pss_cons (ps_expr (pe_bm PySem.F.plainAttrs_list PySem.F.slot_list_append PySem.F.type_list_append mt_append (pv 4) (pa_cons (pv 3) pa_nil)))
        (pss_one (ps_set (i := 3) sc_first_counts.nd rfl (.inl rfl) (pe_cal C.passed hr (by decide) (pa_cons (pv 2) (pa_cons (pv 3) pa_nil)))))))
      (pss_one (ps_ret (pv 4))))))), ?_⟩
    refine ⟨.ref a, rfl, a, b, rfl, hb, by omega, fun H1 r s1 hR => ?_⟩
    refine ⟨.ref a, rfl, a, b, rfl, s1.book hb, by omega, fun H2 s2 => ?_⟩
    obtain ⟨t, rs, h1, h2, h3, h4⟩ := (s1.trans s2).book hb
    refine ⟨.ref a, rfl, a, _, 0, .str (sOf b.first), rfl, rfl, h1, atI_nat (j := 0) rfl, b.sg, b.first, rfl, by rw [List.length_map]; exact Nat.le_trans k5 (by decide), fun H3 p s3 np hp => ?_⟩
    refine ⟨Nat.zero_le _, fun D nD => ?_⟩
    have s03 : Same H H3 := (s1.trans s2).trans s3
    have hp' : (upd H3 D (.lst [])) p = some (.lst (iv b.start)) := by rw [upd_ne (ne_of_none hp nD)]; exact hp
    refine ⟨.int m, rfl, (m : Int), rfl, by omega, by omega, ?_⟩
    rw [Int.toNat_natCast]
    refine for_it (walk_range (lo := 0) (n := m)) (fun i σ H' => ∃ (p : Addr) (y5 : Option V) (as : List Addr), σ = [some (.ref a), some (.int m), some (.ref r), some (.ref p), some (.ref D), y5] ∧ Same H3 H' ∧ H' p = some (.lst (iv (b.cnt i))) ∧ p ≠ D ∧ H p = none ∧
      H' D = some (.lst (as.map V.ref)) ∧ as.length = i ∧ ∀ (j : Nat) (z : Addr), as[j]? = some z → z ≠ D ∧ H z = none ∧ H' z = some (.lst (iv (b.cnt j)))) ?_ (fun _ _ _ _ _ => trivial) ?_ ?_
    · exact ⟨p, _, [], rfl, same_upd nD, hp', ne_of_none hp nD, (s1.trans s2).free np, upd_same, rfl, fun j z h => by simp at h⟩
    · rintro i x σ H4 H5 hi ⟨p, y5, as, rfl, s4, hp4, npD, npH, hD, la, has⟩ ⟨rfl, ex⟩
      refine ⟨.ref D, rfl, .inl ⟨rfl, _, .inl (.inl hD)⟩, .ref p, rfl, D, _, _, rfl, rfl, hD, sz_lt (by rw [List.length_map]; omega), ?_⟩
      have s5 : Same H3 (upd H5 D (.lst (as.map V.ref ++ [.ref p]))) := fun b o hb => by
        rw [upd_ne (ne_of_none hb nD)]
        exact s4 _ _ hb
      have hp5 : (upd H5 D (.lst (as.map V.ref ++ [.ref p]))) p = some (.lst (iv (b.cnt i))) := by rw [upd_ne npD]; exact hp4
      refine ⟨.ref r, rfl, .ref p, rfl, r, p, b.rates, b.cnt i, rfl, (s2.trans (s3.trans s5)).mi hR, .inl (.inl hp5), ?_, ?_, ok.bits i (by omega), ok.bitsM, fun H6 p6 s6 np6 hp6 => ?_⟩
      · rw [b.cnt_len]; exact b.sqr
      · rw [b.cnt_len]; omega
      · refine ⟨p6, _, as ++ [p], rfl, s5.trans s6, hp6, ?_, (s03.trans s5).free np6, ?_, by rw [List.length_append, la]; rfl, fun j z hz => ?_⟩
        · intro e
          rw [e, upd_same] at np6
          cases np6
        · rw [List.map_append]
          exact s6 _ _ upd_same
        · by_cases hj : j < as.length
          · rw [List.getElem?_append_left hj] at hz
            obtain ⟨z1, z0, z2⟩ := has j z hz
            exact ⟨z1, z0, s6 _ _ (by rw [upd_ne z1]; exact z2)⟩
          · have ej : j = as.length := by
              rcases List.getElem?_eq_some_iff.mp hz with ⟨h1, _⟩
              rw [List.length_append] at h1
              simp at h1
              omega
            subst ej
            rw [List.getElem?_append_right (Nat.le_refl _), Nat.sub_self] at hz
            have ez : p = z := by simpa using hz
            subst ez
            rw [la]
            exact ⟨npD, npH, s6 _ _ hp5⟩
    · rintro σ H4 ⟨p, y5, as, rfl, s4, hp4, npD, npH, hD, la, has⟩
      refine ⟨.ref D, rfl, q H4 D (s03.trans s4) (s03.free nD) ⟨as, hD, ?_, fun i z hz => ?_⟩⟩
      · unfold Bk.firsts; rw [List.length_map, List.length_range, la]
      · have hi : i < m := by
          rcases List.getElem?_eq_some_iff.mp hz with ⟨h1, _⟩
          omega
        unfold Bk.firsts
        rw [row_range hi]
        exact (has i z hz).2

/-! ### joint_counts -/
structure CJoint (P : Program) (w : World) (K : PySem.W.Frag) (mg : Str → Option Value) (base : Heap) : Prop where
  first_counts : Cal P w K mg base "first_counts" ["book", "many"] (spFirstCounts K) 3
abbrev s_joint_counts : Stmt := topS 33
theorem sc_joint_counts : FnScope ["one", "other", "many", "found", "mine", "theirs"] ["one", "other", "many"] (defScope s_joint_counts) := ⟨rfl, rfl, rfl, by decide +kernel, rfl, by decide +kernel, by decide +kernel⟩
def spJoint (K : PySem.W.Frag) : Sp := fun vs H Q _ => ∃ (a a' : Addr) (b b' : Bk) (m : Nat), vs = [.ref a, .ref a', .int m] ∧ BookAt K H a b ∧ BookAt K H a' b' ∧ BkOK b ∧ BkOK b' ∧ m ≤ 300 ∧ RetP Q H (joints b b' m)
theorem ok_joint_counts (F : Fun K "joint_counts" "joint_counts" s_joint_counts f fd) (B : Bi mg) (C : CJoint P w K mg base) : FnOk P w K mg base CX0 4 f fd ["one", "other", "many"] (spJoint K) := by
  refine F.ok sc_joint_counts (fun vs H Q E h => ?_) (fun cdv A outer s H vs Q E hr h => ?_)
  · obtain ⟨a, a', b, b', m, rfl, _⟩ := h
    rfl
  · obtain ⟨a, a', b, b', m, rfl, hb, hb', ok, ok', hm, q⟩ := h
    have k5 := ok.k
    have k5' := ok'.k
    refine ⟨_, (pss_cons (ps_set (i := 3) sc_joint_counts.nd rfl (.inl rfl) (pe_cal C.first_counts hr (by decide) (pa_cons (pv 0) (pa_cons (pv 2) pa_nil))))
      (pss_cons (ps_if (pt_cmpR op_isN (pv 1) pe_non (nomark _))
        (pss_one (ps_ret (pv 3)))
        pss_nil)
      (pss_one (ps_ret (pe_lc (own := [("mine", 4), ("theirs", 5)]) (g := _) (tt := tYes) rfl sc_joint_counts.nd (pi_zip (by rfl) B.zip (pa_cons (pv 3) (pa_cons (pe_cal C.first_counts hr (by decide) (pa_cons (pv 1) (pa_cons (pv 2) pa_nil))) pa_nil))) (blkOk_by (N := ["one", "other", "many", "found", "mine", "theirs"]) (sc := defScope s_joint_counts) (by decide +kernel)) (fun _ _ _ _ _ => (show PG _ _ (gTup K 2 _) from pg_tup rfl (pgs_cons (pg_name (i := 4) sc_joint_counts.nd rfl (.inl rfl)) (pgs_cons (pg_name (i := 5) sc_joint_counts.nd rfl (.inl rfl)) pgs_nil)))) (fun _ _ _ _ _ => pts_nil) (fun _ _ _ _ _ => (pe_op op_cat (pv 4) (pv 5)))))))), ?_⟩
    refine ⟨.ref a, rfl, .int m, rfl, a, b, m, rfl, hb, ok, hm, fun H1 p s1 _ hp => ?_⟩
    refine ⟨.ref a', rfl, rfl, _, rfl, ?_⟩
    rw [decide_eq_false (fun z => by cases z)]
    refine iteF ?_
    refine ⟨.ref p, rfl, .ref a', rfl, .int m, rfl, a', b', m, rfl, s1.book hb', ok', hm, fun H2 p' s2 _ hp' => ?_⟩
    obtain ⟨as, a1, a2, a3⟩ := s2.mp hp.mp
    obtain ⟨as', a1', a2', a3'⟩ := hp'.mp
    have la : as.length = m := by rw [a2]; unfold Bk.firsts; rw [List.length_map, List.length_range]
    have la' : as'.length = m := by rw [a2']; unfold Bk.firsts; rw [List.length_map, List.length_range]
    refine ⟨p, p', as.map V.ref, as'.map V.ref, rfl, .inl (.inl a1), .inl (.inl a1'), fun D nD => ?_⟩
    refine lc_acc (walk_zip (n := m) (by rw [List.length_map, List.length_map]; omega)) nD (by omega) (fun i y H' => ∃ (z : Addr), y = .ref z ∧ (z ≠ D ∧ H z = none) ∧ H' z = some (.lst (iv (b.cnt i ++ b'.cnt i))))
      (fun i y H1 H2 h sx => by obtain ⟨p, e, n, hp⟩ := h; exact ⟨p, e, n, sx p _ n.1 hp⟩) (fun H s3 => ⟨s3.seq (.inl (.inl a1)), s3.seq (.inl (.inl a1'))⟩)
      (fun i x H3 H4 hi s3 hD hy R' N qq => ?_) (fun H3 ys s3 hD hl hacc => ?_)
    · obtain ⟨T, u1, u2, rfl, nT, rfl, e1, e2⟩ := hy
      obtain ⟨o, hD⟩ := hD
      have e1 : (as.map V.ref)[i]? = some u1 := e1
      have e2 : (as'.map V.ref)[i]? = some u2 := e2
      rw [List.getElem?_map, List.getElem?_eq_getElem (by omega)] at e1 e2
      obtain rfl : V.ref (as[i]'(by omega)) = u1 := Option.some.inj e1
      obtain rfl : V.ref (as'[i]'(by omega)) = u2 := Option.some.inj e2
      have sT : Same H3 (upd H3 T (.tup [.ref (as[i]'(by omega)), .ref (as'[i]'(by omega))])) := same_upd nT
      have r1 := (s3.trans sT) _ _ (a3 i _ (List.getElem?_eq_getElem (by omega)))
      have r2 := (s3.trans sT) _ _ (a3' i _ (List.getElem?_eq_getElem (by omega)))
      unfold Bk.firsts at r1 r2
      rw [row_range hi] at r1 r2
      refine ⟨T, _, rfl, .inl (.inl upd_same), rfl, _, _, rfl, _, _, rfl, rfl, rfl, yes_ok ?_⟩
      refine ⟨_, rfl, _, rfl, _, _, _, _, rfl, rfl, r1, r2, sz_le (by rw [iv_len, iv_len, b.cnt_len, b'.cnt_len]; omega), fun z nz => ?_⟩
      refine qq _ _ (sT.trans (same_upd nz)) ⟨z, rfl, ⟨fun e => ?_, (((s1.trans s2).trans s3).trans sT).free nz⟩, ?_⟩
      · rw [e] at nz
        rw [sT _ _ hD] at nz
        cases nz
      · rw [upd_same]
        show some (HO.lst ((b.cnt i).map V.int ++ (b'.cnt i).map V.int)) = some (.lst ((b.cnt i ++ b'.cnt i).map V.int))
        rw [List.map_append]
    · obtain ⟨zs, e, hz⟩ := refs_of (ys := ys) (Pr := fun i z => (z ≠ D ∧ H z = none) ∧ H3 z = some (.lst (iv (b.cnt i ++ b'.cnt i)))) fun i hi => by
        obtain ⟨p, e, n, hp⟩ := hacc i _ (List.getElem?_eq_getElem hi)
        exact ⟨p, by rw [List.getElem?_eq_getElem hi, e], n, hp⟩
      have lz : zs.length = m := by rw [← hl, e, List.length_map]
      refine q H3 D ((s1.trans s2).trans s3) ((s1.trans s2).free nD) ⟨zs, by rw [hD, e], by unfold joints; rw [List.length_map, List.length_range, lz], fun i z hzi => ?_⟩
      have hi : i < m := by
        rcases List.getElem?_eq_some_iff.mp hzi with ⟨h1, _⟩
        omega
      unfold joints
      rw [row_range hi]
      exact ⟨(hz i z hzi).1.2, (hz i z hzi).2⟩
end
end LG

/-! ## W09 -/
set_option maxRecDepth 100000
set_option maxHeartbeats 4000000
namespace LG
open PySem PySem.Spec PyProof.Rows L2

theorem g_take {xs : List Int} {n i : Nat} (h : i < n) : g (xs.take n) i = g xs i := by
  unfold g
  rw [List.getD_eq_getElem?_getD, List.getD_eq_getElem?_getD, List.getElem?_take, if_pos h]
theorem iv_take (xs : List Int) (n : Nat) : (iv xs).take n = iv (xs.take n) := by
  show (xs.map V.int).take n = (xs.take n).map V.int
  rw [List.map_take]
def markL (m t : Nat) : List Int := (List.range m).map fun k => if k = t then 1 else 0
theorem markL_len (m t : Nat) : (markL m t).length = m := by unfold markL; rw [List.length_map, List.length_range]
theorem g_markL {m t k : Nat} (h : k < m) : g (markL m t) k = if k = t then 1 else 0 := by
  rw [g_lt (by rw [markL_len]; exact h)]
  unfold markL
  rw [List.getElem_map, List.getElem_range]

/-- kept rows, the list at kp apart from them -/
def KH (K : PySem.W.Frag) (H : Hp) (kp : Addr) (kept : List (Nat × List Int)) : Prop := ∃ rs : List Addr, H kp = some (.lst (rs.map V.ref)) ∧ rs.length = kept.length ∧
  ∀ (i : Nat) (r : Addr), rs[i]? = some r → r ≠ kp ∧ ∃ p : Addr, p ≠ kp ∧ SqT K H r [.int (keL kept i : Nat), .ref p] ∧ SqL K H p (iv (kept.getD i (0, [])).2)
theorem KH.keptH {K : PySem.W.Frag} {H : Hp} {kp : Addr} {kept : List (Nat × List Int)} (h : KH K H kp kept) : KeptH K H kp kept := by
  obtain ⟨rs, h1, h2, h3⟩ := h
  exact ⟨rs, .inl (.inl h1), h2, fun i r hr => by obtain ⟨_, p, _, p1, p2⟩ := h3 i r hr; exact ⟨p, p1, p2⟩⟩
theorem _root_.L2.Same.kh {K : PySem.W.Frag} {H H' : Hp} {kp : Addr} {kept : List (Nat × List Int)} (e : Same H H') (h : KH K H kp kept) : KH K H' kp kept := by
  obtain ⟨rs, h1, h2, h3⟩ := h
  exact ⟨rs, e _ _ h1, h2, fun i r hr => by obtain ⟨n, p, n2, p1, p2⟩ := h3 i r hr; exact ⟨n, p, n2, e.seqT p1, e.seq p2⟩⟩
theorem KH.more {K : PySem.W.Frag} {H : Hp} {kp t p : Addr} {kept : List (Nat × List Int)} {l : Nat} {y : List Int} (h : KH K H kp kept) (nt : t ≠ kp) (np : p ≠ kp) (ht : SqT K H t [.int (l : Nat), .ref p]) (hp : SqL K H p (iv y)) :
    ∃ xs, H kp = some (.lst xs) ∧ xs.length = kept.length ∧ KH K (upd H kp (.lst (xs ++ [.ref t]))) kp (kept ++ [(l, y)]) := by
  obtain ⟨rs, h1, h2, h3⟩ := h
  refine ⟨_, h1, by rw [List.length_map, h2], rs ++ [t], by rw [upd_same, List.map_append]; rfl, by rw [List.length_append, List.length_append, h2]; rfl, fun i r hr => ?_⟩
  by_cases hi : i < rs.length
  · rw [List.getElem?_append_left hi] at hr
    obtain ⟨n, p', n2, p1, p2⟩ := h3 i r hr
    have e : (kept ++ [(l, y)]).getD i (0, []) = kept.getD i (0, []) := by
      rw [List.getD_eq_getElem?_getD, List.getElem?_append_left (by omega), ← List.getD_eq_getElem?_getD]
    unfold keL at *
    rw [e]
    exact ⟨n, p', n2, seqT_upd n p1, seq_upd n2 p2⟩
  · have ei : i = rs.length := by
      rcases List.getElem?_eq_some_iff.mp hr with ⟨h1, _⟩
      rw [List.length_append] at h1
      simp at h1
      omega
    subst ei
    rw [List.getElem?_append_right (Nat.le_refl _), Nat.sub_self] at hr
    have er : t = r := by simpa using hr
    subst er
    have e : (kept ++ [(l, y)]).getD rs.length (0, []) = (l, y) := by
      rw [h2, List.getD_eq_getElem?_getD, List.getElem?_append_right (Nat.le_refl _)]; simp
    unfold keL
    rw [e]
    exact ⟨nt, p, np, seqT_upd nt ht, seq_upd np hp⟩

section
variable {P : Program} {w : World} {K : PySem.W.Frag} {mg : Str → Option Value} {base : Heap} {f : Addr} {fd : FuncData}

/-! ### first_tie -/
structure CFirstTie (P : Program) (w : World) (K : PySem.W.Frag) (mg : Str → Option Value) (base : Heap) : Prop where
  cleared : Cal P w K mg base "cleared" ["numbers", "kept"] (spCleared K) 3
  lead_of : Cal P w K mg base "lead_of" ["numbers"] (spLeadOf K) 1
abbrev s_first_tie : Stmt := topS 31
theorem sc_first_tie : FnScope ["vectors", "width", "kept", "at", "marks", "numbers", "lead", "own", "k"] ["vectors"] (defScope s_first_tie) := ⟨rfl, rfl, rfl, by decide +kernel, rfl, by decide +kernel, by decide +kernel⟩
def spFirstTie (K : PySem.W.Frag) : Sp := fun vs H Q _ => ∃ (a : Addr) (R : Mx) (v : Nat → Nat → Int) (wd : Nat), vs = [.ref a] ∧ MP H a R ∧ R.length = wd + 1 ∧ wd ≤ 10 ∧
  (∀ n, n < wd + 1 → (row R n).length = wd ∧ ∀ j, j < wd → g (row R n) j = v n j) ∧ (∀ n j, wd ≤ j → v n j = 0) ∧ Shift v ∧ (∀ n j, (v n j).natAbs < 2 ^ (3 * n + 3)) ∧ ∀ c, TieOK v wd c → RetL Q H c
theorem ok_first_tie (F : Fun K "first_tie" "first_tie" s_first_tie f fd) (B : Bi mg) (C : CFirstTie P w K mg base) : FnOk P w K mg base CX0 4 f fd ["vectors"] (spFirstTie K) := by
  refine F.ok sc_first_tie (fun vs H Q E h => ?_) (fun cdv A outer s H vs Q E hr h => ?_)
  · obtain ⟨a, R, v, wd, rfl, _⟩ := h
    rfl
  · obtain ⟨a, R, v, wd, rfl, hR, lR, hw, hrow, hz, S, sz, q⟩ := h
    obtain ⟨as, a1, a2, a3⟩ := hR
    have la : as.length = wd + 1 := by omega
    have l0 : ((as.map V.ref).length : Int) = ((wd + 1 : Nat) : Int) := by rw [List.length_map, la]
    refine ⟨_, (pss_cons (ps_set (i := 1) sc_first_tie.nd rfl (.inr rfl) (pe_callB (r := rLenSeq K) call_len_seq (by rfl) B.len (by decide +kernel) (pa_cons (pe_ix (r := rIxL K) ix_list (pv 0) pe_int (fun _ _ => rfl)) pa_nil)))
      (pss_cons (ps_set (i := 2) sc_first_tie.nd rfl (.inl rfl) (pe_lst pa_nil))
      (pss_cons (ps_for PassesOwn.never rfl (pi_range1 rfl B.range (pa_cons (pe_callB (r := rLenSeq K) call_len_seq (by rfl) B.len (by decide +kernel) (pa_cons (pv 0) pa_nil)) pa_nil)) (pg_name (i := 3) sc_first_tie.nd rfl (.inr rfl))
        (pss_cons (ps_setLc (i := 4) (own := [("k", 8)]) (g := _) (tt := tYes) rfl sc_first_tie.nd rfl rfl (sw_true rfl rfl rfl (by decide +kernel)) (pi_range1 rfl B.range (pa_cons (pe_callB (r := rLenSeq K) call_len_seq (by rfl) B.len (by decide +kernel) (pa_cons (pv 0) pa_nil)) pa_nil)) (blkOk_by (N := ["vectors", "width", "kept", "at", "marks", "numbers", "lead", "own", "k"]) (sc := defScope s_first_tie) (by decide +kernel)) (fun _ _ _ _ _ => (pg_name (i := 8) sc_first_tie.nd rfl (.inl rfl))) (fun _ _ _ _ _ => pts_nil) (fun _ _ _ _ _ => (pe_callTy call_int1 (by rfl) B.int (by decide +kernel) (pa_cons (pe_cmpR op_eq (pv 8) (pv 3) (nomark _)) pa_nil))))
        (pss_cons (ps_set (i := 5) sc_first_tie.nd rfl (.inr rfl) (pe_cal C.cleared hr (by decide) (pa_cons (pe_op op_cat (pe_ix (r := rIxL K) ix_list (pv 0) (pv 3) (fun _ _ => rfl)) (pv 4)) (pa_cons (pv 2) pa_nil))))
        (pss_cons (ps_set (i := 6) sc_first_tie.nd rfl (.inl rfl) (pe_cal C.lead_of hr (by decide) (pa_cons (pe_slice (r := rSlL K) sl_list (pv 5) po_none (po_some (pv 1))) pa_nil)))
        (pss_cons (ps_if (pt_cmpR op_lt (pv 6) pe_int (nomark _))
          (pss_cons (ps_set (i := 7) sc_first_tie.nd rfl (.inr rfl) (pe_ix (r := rIxL K) ix_list (pv 5) (pe_op op_add (pv 1) (pv 3)) (fun _ _ => rfl)))
          (pss_one (ps_ret (pe_lc (own := [("k", 8)]) (g := _) (tt := tYes) rfl sc_first_tie.nd (pi_range1 rfl B.range (pa_cons (pv 3) pa_nil)) (blkOk_by (N := ["vectors", "width", "kept", "at", "marks", "numbers", "lead", "own", "k"]) (sc := defScope s_first_tie) (by decide +kernel)) (fun _ _ _ _ _ => (pg_name (i := 8) sc_first_tie.nd rfl (.inl rfl))) (fun _ _ _ _ _ => pts_nil) (fun _ _ _ _ _ => (pe_op op_fdivN (pe_un un_neg (pe_ix (r := rIxL K) ix_list (pv 5) (pe_op op_add (pv 1) (pv 8)) (fun _ _ => rfl))) (pv 7)))))))
          pss_nil)
        (pss_one (ps_expr (pe_bm PySem.F.plainAttrs_list PySem.F.slot_list_append PySem.F.type_list_append mt_append (pv 2) (pa_cons (pe_tup (pa_cons (pv 6) (pa_cons (pv 5) pa_nil))) pa_nil)))))))))
      (pss_one (ps_ret (pe_lst pa_nil)))))), ?_⟩
    have pick : ∀ i, (hi : i < wd + 1) → (as.map V.ref)[i]? = some (.ref (as[i]'(by omega))) ∧ H (as[i]'(by omega)) = some (.lst (iv (row R i))) := fun i hi =>
      ⟨by rw [List.getElem?_map, List.getElem?_eq_getElem (by omega)]; rfl, a3 i _ (List.getElem?_eq_getElem (by omega))⟩
    -- width
    refine ⟨.ref a, rfl, a, _, 0, _, rfl, rfl, .inl (.inl a1), atI_nat (j := 0) (pick 0 (by omega)).1, as[0]'(by omega), _, rfl, .inl (.inl (.inl (pick 0 (by omega)).2)), ?_⟩
    rw [iv_len, (hrow 0 (by omega)).1]
    refine ⟨Nat.zero_le _, fun kp nkp => ?_⟩
    -- the loop
    have s0 : Same H (upd H kp (.lst [])) := same_upd nkp
    refine ⟨.ref a, rfl, a, _, rfl, .inl (s0.seq (.inl (.inl a1))), _, rfl, by rw [l0]; omega, by rw [l0]; omega, ?_⟩
    rw [l0, Int.toNat_natCast]
    refine for_it (walk_range (lo := 0) (n := wd + 1)) (fun i σ H' => ∃ y3 y4 y5 y6 y7 y8, σ = [some (.ref a), some (.int (wd : Nat)), some (.ref kp), y3, y4, y5, y6, y7, y8] ∧ Same H H' ∧
      ∃ kept : List (Nat × List Int), kept.length = i ∧ KeptAt v wd (wd + 1) kept ∧ KH K H' kp kept) ?_ (fun _ _ _ _ _ => trivial) ?_ ?_
    · exact ⟨_, _, _, _, _, _, rfl, s0, [], rfl, kept_nil, [], upd_same, rfl, fun i r h => by simp at h⟩
    · rintro i x σ H2 H3 hi ⟨y3, y4, y5, y6, y7, y8, rfl, s2, kept, lk, hk, hK⟩ ⟨rfl, ex⟩
      obtain rfl : x = .int i := by rw [ex]; exact congrArg V.int (Int.zero_add _)
      have few := hk.few
      -- marks
      refine ⟨.ref a, rfl, a, _, rfl, .inl (s2.seq (.inl (.inl a1))), _, rfl, by rw [l0]; omega, by rw [l0]; omega, fun D nD => ?_⟩
      rw [l0, Int.toNat_natCast]
      refine lc_acc (walk_range (lo := 0) (n := wd + 1)) nD (by omega) (fun k y _ => y = .int (if k = i then 1 else 0)) (fun _ _ _ _ h _ => h) (fun _ _ => trivial)
        (fun k x H4 H5 hk s4 hD hy R' N qq => ?_) (fun H4 ys s4 hD hl hacc => ?_)
      · obtain ⟨rfl, ex⟩ := hy
        obtain rfl : x = .int k := by rw [ex]; exact congrArg V.int (Int.zero_add _)
        refine ⟨rfl, yes_ok ⟨.int k, rfl, .int i, rfl, rfl, .inr ⟨_, rfl, qq _ _ (Same.refl _) ?_⟩⟩⟩
        by_cases e : k = i
        · subst e
          rw [decide_eq_true rfl]
          exact (congrArg V.int (if_pos rfl)).symm
        · rw [decide_eq_false (fun z => e (by have := V.int.inj z; omega)), if_neg e]; rfl
      have em : ys = iv (markL (wd + 1) i) := iv_of hl hacc (markL_len _ _) fun k hk => g_markL hk
      rw [em] at hD
      have s04 : Same H H4 := s2.trans s4
      have p1 := pick i hi
      -- numbers
      have hK4 := s4.kh hK
      obtain ⟨ro, hkp⟩ : ∃ o, H4 kp = some o := by obtain ⟨rs, h, _⟩ := hK4; exact ⟨_, h⟩
      refine ⟨.ref a, rfl, .int i, rfl, a, _, i, _, rfl, rfl, s04.seq (.inl (.inl a1)), atI_nat p1.1, .ref D, rfl, _, D, _, _, rfl, rfl, s04 _ _ p1.2, hD, sz_le (by rw [iv_len, iv_len, markL_len, (hrow i hi).1]; omega), fun D2 nD2 => ?_⟩
      have s5 : Same H4 (upd H4 D2 (.lst (iv (row R i) ++ iv (markL (wd + 1) i)))) := same_upd nD2
      have ecat : iv (row R i) ++ iv (markL (wd + 1) i) = iv (row R i ++ markL (wd + 1) i) := (List.map_append).symm
      have cs := clear_start (v := v) (kept := kept) (row R i) (markL (wd + 1) i) (hrow i hi).1 (markL_len _ _) (by omega) (by rw [lk]; exact (hrow i hi).2) (fun j hj => hz _ j hj) (fun k hk => by rw [g_markL hk, lk]) (fun j _ => sz _ j)
      refine ⟨.ref kp, rfl, D2, kp, row R i ++ markL (wd + 1) i, kept, v, wd, wd + 1, rfl, .inl (.inl (by rw [upd_same, ecat])), (s5.kh hK4).keptH, hk, cs, by omega, by omega, by omega, fun H6 p6 s6 np6 hp6 => ?_⟩
      have n6 : p6 ≠ kp := by
        rcases np6 with e | e
        · rw [e]
          exact (ne_of_none hkp nD2).symm
        · exact (ne_of_none (s5 _ _ hkp) e).symm
      have ca := clear_all hk (by omega) cs kept.length (Nat.le_refl _)
      rw [List.take_length] at ca
      generalize hy : cleared (row R i ++ markL (wd + 1) i) kept = y at *
      have ly := ca.row.len
      have s46 : Same H4 H6 := s5.trans s6
      have s06 := s04.trans s46
      -- lead
      refine ⟨.ref p6, rfl, .int (wd : Nat), rfl, (wd : Nat), rfl, p6, _, rfl, hp6, fun c nc => ?_⟩
      have s7 : Same H6 (upd H6 c (.lst (cutV (iv y) none (some (wd : Nat))))) := same_upd nc
      have hc : SqL K (upd H6 c (.lst (cutV (iv y) none (some (wd : Nat))))) c (iv (y.take wd)) := .inl (.inl (by rw [upd_same, cut_take, iv_take]))
      have lt : (y.take wd).length = wd := by rw [List.length_take]; omega
      have hp7 := s7.seq hp6
      have hK7 := (s46.trans s7).kh hK4
      have s07 := s06.trans s7
      generalize hH7 : upd H6 c (.lst (cutV (iv y) none (some (wd : Nat)))) = H7 at *
      refine ⟨c, y.take wd, rfl, hc, by omega, fun l hl hn => ?_, fun hall => ?_⟩
      · rw [lt] at hl
        rw [g_take hl] at hn
        refine ⟨.int l, rfl, l, 0, rfl, rfl, _, rfl, ?_⟩
        rw [decide_eq_false (by omega)]
        refine iteF ?_
        obtain ⟨rs7, hk7, _⟩ := hK7
        have hkp7 : ∃ o, H7 kp = some o := ⟨_, hk7⟩
        refine ⟨.ref kp, rfl, .inl ⟨rfl, _, .inl (.inl hk7)⟩, .int l, rfl, .ref p6, rfl, sz_le (by show 2 ≤ 1000000; decide), fun t nt => ?_⟩
        have nt2 : t ≠ kp := (ne_of_none hk7 nt).symm
        have s8 : Same H7 (upd H7 t (.tup [.int l, .ref p6])) := same_upd nt
        obtain ⟨xs, x1, x2, x3⟩ := KH.more (l := l) (y := y) (s8.kh (s7.kh (s6.kh (s5.kh hK4)))) nt2 n6 (.inl (.inl upd_same)) (s8.seq hp7)
        refine ⟨kp, xs, .ref t, rfl, rfl, x1, sz_lt (by omega), ?_⟩
        refine ⟨some (.int i), _, _, _, _, _, rfl, ?_, kept ++ [(l, y)], by rw [List.length_append, lk]; rfl, keep_more hk ca hl hn, x3⟩
        intro b o hb
        rw [upd_ne (ne_of_none hb nkp)]
        exact s8 _ _ (s07 _ _ hb)
      · have h0 : ∀ j, j < wd → g y j = 0 := fun j hj => by
          have := hall j (by rw [lt]; exact hj)
          rwa [g_take hj] at this
        obtain ⟨u1, T⟩ := tie_found hw S (fun k _ j hj => hz k j hj) hk (by omega) ca h0
        rw [lk] at u1 T
        have neg : decide ((-1 : Int) < 0) = true := by decide
        refine ⟨.int (-1), rfl, -1, 0, rfl, rfl, _, rfl, ?_⟩
        rw [neg]
        refine iteT ?_
        refine ⟨.ref p6, rfl, .int (wd : Nat), rfl, .int i, rfl, _, _, rfl, rfl, p6, _, _, _, rfl, rfl, hp7, at_of (j := wd + i) (by omega) (get_iv (by omega)), ?_⟩
        refine ⟨.int i, rfl, (i : Int), rfl, by omega, by omega, fun D3 nD3 => ?_⟩
        rw [Int.toNat_natCast]
        refine lc_acc (walk_range (lo := 0) (n := i)) nD3 (by omega) (fun k z _ => z = .int (Int.fdiv (-(g y (wd + k))) (g y (wd + i)))) (fun _ _ _ _ h _ => h) (fun _ _ => trivial)
          (fun k x H8 H9 hki s8 hD3 hy3 R' N qq => ?_) (fun H8 zs s8 hD3 hl3 hacc3 => ?_)
        · obtain ⟨rfl, ex⟩ := hy3
          obtain rfl : x = .int k := by rw [ex]; exact congrArg V.int (Int.zero_add _)
          exact ⟨rfl, yes_ok ⟨.ref p6, rfl, .int (wd : Nat), rfl, .int k, rfl, _, _, rfl, rfl, p6, _, _, _, rfl, rfl, s8.seq hp7, at_of (j := wd + k) (by omega) (get_iv (by omega)), _, rfl, .int (g y (wd + i)), rfl, _, _, rfl, rfl, ⟨by omega, by omega⟩, qq _ _ (Same.refl _) rfl⟩⟩
        · have ez : zs = iv (tieOf wd i y) := iv_of hl3 hacc3 (by unfold tieOf; rw [List.length_map, List.length_range]) fun k hk => by
            unfold tieOf
            rw [g_lt (by rw [List.length_map, List.length_range]; exact hk), List.getElem_map, List.getElem_range]
          rw [ez] at hD3
          exact q _ T H8 D3 (s07.trans s8) (s07.free nD3) hD3
    · rintro σ H2 ⟨y3, y4, y5, y6, y7, y8, rfl, s2, kept, lk, hk, hK⟩
      have := hk.few
      omega

/-! ### tie -/
structure CTie (P : Program) (w : World) (K : PySem.W.Frag) (mg : Str → Option Value) (base : Heap) : Prop where
  letters : Cal P w K mg base "letters" ["book"] (spLetters K) 1
  joint_counts : Cal P w K mg base "joint_counts" ["one", "other", "many"] (spJoint K) 4
  first_tie : Cal P w K mg base "first_tie" ["vectors"] (spFirstTie K) 4
abbrev bothB (b b' : Bk) : Nat → Nat → Int := both b.rates b.start b'.rates b'.start
abbrev s_tie : Stmt := topS 34
theorem sc_tie : FnScope ["one", "other", "size"] ["one", "other"] (defScope s_tie) := ⟨rfl, rfl, rfl, by decide +kernel, rfl, by decide +kernel, by decide +kernel⟩
def spTie (K : PySem.W.Frag) : Sp := fun vs H Q _ => ∃ (a a' : Addr) (b b' : Bk), vs = [.ref a, .ref a'] ∧ BookAt K H a b ∧ BookAt K H a' b' ∧ BkOK b ∧ BkOK b' ∧ ∀ c, TieOK (bothB b b') (b.k + b'.k) c → RetL Q H c
theorem tie_body (B : Bi mg) (C : CTie P w K mg base) {cdv : Value} {A : Around} {outer : List Env} {s : Shared} {H : Hp} {vs : List V} {Q : VK} {E : XK}
    (hr : Room 5 (A.deeper (envOfC "tie" (defScope s_tie) s.heap.objs.size f cdv))) (h : spTie K vs H Q E) :
    ∃ t, PSs (cxOf CX0 P w K mg base ["one", "other", "size"] "tie" (defScope s_tie) f cdv A outer s H E).nox (defBody s_tie) t ∧ t { nx := fun _ H' => Q .non H', rt := Q } (start ["one", "other", "size"] vs) H := by
  obtain ⟨a, a', b, b', rfl, hb, hb', ok, ok', q⟩ := h
  have k5 := ok.k
  have k5' := ok'.k
  refine ⟨_, (pss_cons (ps_set (i := 2) sc_tie.nd rfl (.inl rfl) (pe_callB call_len_str (by rfl) B.len (by decide +kernel) (pa_cons (pe_cal C.letters hr (by decide) (pa_cons (pv 0) pa_nil)) pa_nil)))
      (pss_cons (ps_if (pt_cmpR op_notN (pv 1) pe_non (nomark _))
        (pss_one (ps_set (i := 2) sc_tie.nd rfl (.inl rfl) (pe_op op_add (pv 2) (pe_callB call_len_str (by rfl) B.len (by decide +kernel) (pa_cons (pe_cal C.letters hr (by decide) (pa_cons (pv 1) pa_nil)) pa_nil)))))
        pss_nil)
      (pss_one (ps_ret (pe_cal C.first_tie hr (by decide) (pa_cons (pe_cal C.joint_counts hr (by decide) (pa_cons (pv 0) (pa_cons (pv 1) (pa_cons (pe_op op_add (pv 2) pe_int) pa_nil)))) pa_nil)))))), ?_⟩
  have lsg : ∀ b : Bk, (sOf b.sg).length = b.k := fun b => by rw [sOf_len, List.length_map]
  refine ⟨.ref a, rfl, a, b, rfl, hb, by omega, fun H1 s1 => ⟨_, rfl, sz_le (by rw [lsg]; omega), ?_⟩⟩
  refine ⟨.ref a', rfl, rfl, _, rfl, ?_⟩
  rw [decide_eq_false (fun z => by cases z)]
  refine iteT ?_
  refine ⟨_, rfl, .ref a', rfl, a', b', rfl, s1.book hb', by omega, fun H2 s2 => ⟨_, rfl, sz_le (by rw [lsg]; omega), _, _, rfl, rfl, ?_⟩⟩
  have s02 := s1.trans s2
  have e : ((sOf b.sg).length : Int) + ((sOf b'.sg).length : Int) + 1 = ((b.k + b'.k + 1 : Nat) : Int) := by rw [lsg, lsg]; omega
  refine ⟨.ref a, rfl, .ref a', rfl, _, rfl, _, _, rfl, rfl, a, a', b, b', b.k + b'.k + 1, congrArg (fun z => [V.ref a, V.ref a', V.int z]) e, s02.book hb, s02.book hb', ok, ok', by omega, fun H3 p s3 _ hp => ?_⟩
  refine ⟨p, joints b b' (b.k + b'.k + 1), bothB b b', b.k + b'.k, rfl, hp.mp, by unfold joints; rw [List.length_map, List.length_range], by omega, fun n hn => ?_, fun n j hj => both_ge (by rw [b.start_len, b'.start_len]; exact hj), shift_both _ _ _ _, fun n j => ?_, fun c T => ?_⟩
  · unfold joints
    rw [row_range hn]
    exact ⟨by rw [List.length_append, b.cnt_len, b'.cnt_len], fun j _ => rfl⟩
  · by_cases hj : j < b.k
    · show (both b.rates b.start b'.rates b'.start n j).natAbs < _
      rw [both_l (by rw [b.start_len]; exact hj)]
      exact ok.cnt_bits n j
    · obtain ⟨t, rfl⟩ : ∃ t, j = b.start.length + t := ⟨j - b.start.length, by rw [b.start_len]; omega⟩
      show (both b.rates b.start b'.rates b'.start n (b.start.length + t)).natAbs < _
      rw [both_r]
      exact ok'.cnt_bits n t
  · exact fun H4 p4 s4 np4 hp4 => q c T H4 p4 ((s02.trans s3).trans s4) ((s02.trans s3).free np4) hp4
end
end LG

/-! ## W10 -/
set_option maxRecDepth 100000
set_option maxHeartbeats 4000000
namespace LG
open PySem PySem.Spec PyProof.Rows L2

theorem _root_.LG.SameX.seq {K : PySem.W.Frag} {H H' : Hp} {a D : Addr} {xs : List V} (e : SameX D H H') (n : a ≠ D) (h : SqL K H a xs) : SqL K H' a xs := by
  rcases h with (h | ⟨o, h⟩) | h
  · exact .inl (.inl (e _ _ n h))
  · exact .inl (.inr ⟨o, e _ _ n h⟩)
  · exact .inr h
theorem cut_last (xs : List V) : cutV xs none (some (-1)) = xs.take (xs.length - 1) := by
  unfold cutV
  rw [HT.sIx_none]
  show List.take ((if (-1 : Int) < 0 then ((-1 : Int) + (xs.length : Int)).toNat else min (-1 : Int).toNat xs.length) - 0) (List.drop 0 xs) = _
  rw [if_pos (by decide), List.drop_zero, Nat.sub_zero]
  congr 1
  omega
theorem at_last {xs : List Int} (h : 0 < xs.length) : atI (iv xs) (-1) = some (.int (g xs (xs.length - 1))) := by
  unfold atI ixN
  rw [if_neg (by decide), if_pos (by rw [iv_len]; omega), iv_len]
  show (iv xs)[((-1 : Int) + (xs.length : Int)).toNat]? = _
  rw [show ((-1 : Int) + (xs.length : Int)).toNat = xs.length - 1 by omega]
  exact get_iv (by omega)

section
variable {P : Program} {w : World} {K : PySem.W.Frag} {mg : Str → Option Value} {base : Heap} {f : Addr} {fd : FuncData}

/-! ### first_weights -/
structure CFirstWeights (P : Program) (w : World) (K : PySem.W.Frag) (mg : Str → Option Value) (base : Heap) : Prop where
  first_counts : Cal P w K mg base "first_counts" ["book", "many"] (spFirstCounts K) 3
abbrev s_first_weights : Stmt := topS 36
theorem sc_first_weights : FnScope ["book", "weights", "many", "found", "counts", "weight", "count"] ["book", "weights", "many"] (defScope s_first_weights) := ⟨rfl, rfl, rfl, by decide +kernel, rfl, by decide +kernel, by decide +kernel⟩
def lensV (b : Bk) (m : Nat) : List Int := (List.range m).map fun n => (b.cnt n).sum
theorem lensV_snoc (b : Bk) (m : Nat) : lensV b (m + 1) = lensV b m ++ [(b.cnt m).sum] := by
  unfold lensV; rw [List.range_succ, List.map_append]; rfl
theorem lensV_len (b : Bk) (m : Nat) : (lensV b m).length = m := by unfold lensV; rw [List.length_map, List.length_range]
theorem g_lensV (b : Bk) {m i : Nat} (h : i < m) : g (lensV b m) i = (b.cnt i).sum := by
  rw [g_lt (by rw [lensV_len]; exact h)]
  unfold lensV
  rw [List.getElem_map, List.getElem_range]
def spFirstWeights (K : PySem.W.Frag) : Sp := fun vs H Q _ => ∃ (a wt : Addr) (b : Bk) (m : Nat), vs = [.ref a, .ref wt, .int m] ∧ BookAt K H a b ∧ BkOK b ∧ SqL K H wt (iv (List.replicate b.k 1)) ∧ m ≤ 300 ∧ RetL Q H (lensV b m)
theorem ok_first_weights (F : Fun K "first_weights" "first_weights" s_first_weights f fd) (B : Bi mg) (C : CFirstWeights P w K mg base) : FnOk P w K mg base CX0 4 f fd ["book", "weights", "many"] (spFirstWeights K) := by
  refine F.ok sc_first_weights (fun vs H Q E h => ?_) (fun cdv A outer s H vs Q E hr h => ?_)
  · obtain ⟨a, wt, b, m, rfl, _⟩ := h
    rfl
  · obtain ⟨a, wt, b, m, rfl, hb, ok, hw, hm, q⟩ := h
    have k5 := ok.k
    refine ⟨_, (pss_cons (ps_set (i := 3) sc_first_weights.nd rfl (.inl rfl) (pe_lst pa_nil))
      (pss_cons (ps_for PassesOwn.never rfl (pi_list (pe_cal C.first_counts hr (by decide) (pa_cons (pv 0) (pa_cons (pv 2) pa_nil)))) (pg_name (i := 4) sc_first_weights.nd rfl (.inl rfl))
        (pss_one (ps_expr (pe_bm PySem.F.plainAttrs_list PySem.F.slot_list_append PySem.F.type_list_append mt_append (pv 3) (pa_cons (pe_callB (cr_sum rfl) (by rfl) B.sum (by decide +kernel) (pa_cons (pe_lc (own := [("weight", 5), ("count", 6)]) (g := _) (tt := tYes) rfl sc_first_weights.nd (pi_zip (by rfl) B.zip (pa_cons (pv 1) (pa_cons (pv 4) pa_nil))) (blkOk_by (N := ["book", "weights", "many", "found", "counts", "weight", "count"]) (sc := defScope s_first_weights) (by decide +kernel)) (fun _ _ _ _ _ => (show PG _ _ (gTup K 2 _) from pg_tup rfl (pgs_cons (pg_name (i := 5) sc_first_weights.nd rfl (.inl rfl)) (pgs_cons (pg_name (i := 6) sc_first_weights.nd rfl (.inl rfl)) pgs_nil)))) (fun _ _ _ _ _ => pts_nil) (fun _ _ _ _ _ => (pe_op op_mulW (pv 5) (pv 6)))) pa_nil)) pa_nil)))))
      (pss_one (ps_ret (pv 3))))), ?_⟩
    refine ⟨Nat.zero_le _, fun D nD => ?_⟩
    have s0 : Same H (upd H D (.lst [])) := same_upd nD
    refine ⟨.ref a, rfl, .int m, rfl, a, b, m, rfl, s0.book hb, ok, hm, fun H1 p s1 np hp => ?_⟩
    obtain ⟨as, a1, a2, a3⟩ := hp
    have la : as.length = m := by rw [a2]; unfold Bk.firsts; rw [List.length_map, List.length_range]
    have hD1 : H1 D = some (.lst []) := s1 _ _ upd_same
    have npD : p ≠ D := fun e => by rw [e, upd_same] at np; cases np
    refine ⟨p, rfl, ⟨_, .inl (.inl a1)⟩, ?_⟩
    refine for_it (walk_list (xs := as.map V.ref)) (fun i σ H' => ∃ y4 y5 y6, σ = [some (.ref a), some (.ref wt), some (.int m), some (.ref D), y4, y5, y6] ∧ Same H H' ∧ SameX D H1 H' ∧ H' D = some (.lst (iv (lensV b i)))) ?_ ?_ ?_ ?_
    · exact ⟨_, _, _, rfl, s0.trans s1, SameX.refl _ _, hD1⟩
    · rintro i σ H2 hi ⟨y4, y5, y6, rfl, s2, sx, hD⟩
      exact sx.seq npD (.inl (.inl a1))
    · rintro i x σ H2 H3 hi ⟨y4, y5, y6, rfl, s2, sx, hD⟩ ⟨rfl, hx⟩
      rw [List.length_map] at hi
      rw [List.getElem?_map, List.getElem?_eq_getElem hi] at hx
      obtain rfl : V.ref as[i] = x := Option.some.inj hx
      obtain ⟨z0, z1⟩ := a3 i _ (List.getElem?_eq_getElem hi)
      have zD : as[i] ≠ D := fun e => by rw [e, upd_same] at z0; cases z0
      have hrow := sx _ _ zD z1
      unfold Bk.firsts at hrow
      rw [row_range (by omega)] at hrow
      refine ⟨.ref D, rfl, .inl ⟨rfl, _, .inl (.inl hD)⟩, .ref wt, rfl, .ref as[i], rfl, wt, as[i], _, _, rfl, s2.seq hw, .inl (.inl hrow), fun D2 nD2 => ?_⟩
      refine lc_acc (walk_zip (n := b.k) (by rw [iv_len, iv_len, List.length_replicate, b.cnt_len, Nat.min_self])) nD2 (by omega) (fun j y _ => y = .int (g (b.cnt i) j)) (fun _ _ _ _ h _ => h) (fun H s3 => ⟨s3.seq (s2.seq hw), s3.seq (.inl (.inl hrow))⟩)
        (fun j x H4 H5 hj s4 _ hy R' N qq => ?_) (fun H4 ys s4 hD2 hl hacc => ?_)
      · obtain ⟨T, u1, u2, rfl, nT, rfl, e1, e2⟩ := hy
        obtain ⟨hj1, rfl⟩ := iv_get e1
        obtain ⟨hj2, rfl⟩ := iv_get e2
        have e3 : g (List.replicate b.k 1) j = 1 := by rw [g_lt hj1, List.getElem_replicate]
        rw [e3]
        refine ⟨T, _, rfl, .inl (.inl upd_same), rfl, _, _, rfl, _, _, rfl, rfl, rfl, yes_ok ?_⟩
        refine ⟨.int 1, rfl, .int (g (b.cnt i) j), rfl, _, _, rfl, rfl, wide_mul (a := 1) (b := 100000) (by decide) (ok.bits i (by omega) j) (by decide) (by decide) (by decide), qq _ _ (same_upd nT) ?_⟩
        exact congrArg V.int (Int.one_mul _)
      · have ez : ys = iv (b.cnt i) := iv_of hl hacc (b.cnt_len i) fun j hj => rfl
        rw [ez] at hD2
        refine ⟨D2, b.cnt i, rfl, .inl (.inl hD2), D, _, .int (b.cnt i).sum, rfl, rfl, s4 _ _ hD, sz_lt (by rw [iv_len, lensV_len]; omega), ?_⟩
        refine ⟨_, _, _, rfl, ?_, ?_, ?_⟩
        · intro b0 o hb0
          rw [upd_ne (ne_of_none hb0 nD)]
          exact s4 _ _ (s2 _ _ hb0)
        · exact (sx.trans s4.toX).trans sameX_upd
        · rw [upd_same, lensV_snoc, iv_snoc]
    · rintro σ H2 ⟨y4, y5, y6, rfl, s2, sx, hD⟩
      rw [List.length_map, la] at hD
      exact ⟨.ref D, rfl, q H2 D s2 nD hD⟩

/-! ### is_row -/
structure CIsRow (P : Program) (w : World) (K : PySem.W.Frag) (mg : Str → Option Value) (base : Heap) : Prop where
  is_whole : Cal P w K mg base "is_whole" ["thing"] spIsWhole 1
structure MTie (mg : Str → Option Value) : Prop where
  MOST_TIE : ∃ t, mg "MOST_TIE" = some (.int 16 t)
abbrev s_is_row : Stmt := topS 35
theorem sc_is_row : FnScope ["thing", "number"] ["thing"] (defScope s_is_row) := ⟨rfl, rfl, rfl, by decide +kernel, rfl, by decide +kernel, by decide +kernel⟩
def spIsRow (K : PySem.W.Frag) : Sp := fun vs H Q _ => ∃ (a : Addr) (xs : List Int), vs = [.ref a] ∧ SqL K H a (iv xs) ∧ xs.length ≤ 16 ∧ Q (.bl true) H
theorem ok_is_row (F : Fun K "is_row" "is_row" s_is_row f fd) (B : Bi mg) (C : CIsRow P w K mg base) (M : MTie mg) : FnOk P w K mg base CX0 2 f fd ["thing"] (spIsRow K) := by
  obtain ⟨_, m_MOST_TIE⟩ := M.MOST_TIE
  refine F.ok sc_is_row (fun vs H Q E h => ?_) (fun cdv A outer s H vs Q E hr h => ?_)
  · obtain ⟨a, xs, rfl, _⟩ := h
    rfl
  · obtain ⟨a, xs, rfl, hA, hl, q⟩ := h
    refine ⟨_, (pss_cons (ps_if (PW.pt (pw_or (pt_not (pt_val (pe_callB call_isi (by rfl) B.isinstance (by decide +kernel) (pa_cons (pv 0) (pa_cons (pe_bltn (v := .ty "list") (u := .type "list") (by rfl) B.list (by decide +kernel) rfl) pa_nil))))) (pw_or1 (pt_cmpR op_gt (pe_callB (r := rLenSeq K) call_len_seq (by rfl) B.len (by decide +kernel) (pa_cons (pv 0) pa_nil)) (pe_glob (v := .int (16)) (by rfl) m_MOST_TIE ⟨_, rfl⟩) (nomark _)))))
        (pss_one (ps_ret pe_bl))
        pss_nil)
      (pss_cons (ps_for PassesOwn.never rfl (pi_list (pv 0)) (pg_name (i := 1) sc_is_row.nd rfl (.inl rfl))
        (pss_one (ps_if (pt_not (pt_val (pe_cal C.is_whole hr (by decide) (pa_cons (pv 1) pa_nil))))
          (pss_one (ps_ret pe_bl))
          pss_nil)))
      (pss_one (ps_ret pe_bl)))), ?_⟩
    refine ⟨.ref a, rfl, .ref a, .ty "list", .type "list", .type "list", true, rfl, .ty "list", ty_list hA, kit_ty (by decide +kernel), true, rfl, iteF ?_⟩
    refine ⟨.ref a, rfl, a, _, rfl, .inl hA, _, 16, rfl, rfl, _, rfl, ite2 (fun h => absurd (of_decide_eq_true h) (by rw [iv_len]; omega)) fun _ => ?_⟩
    refine ⟨.ref a, rfl, a, rfl, ⟨_, hA⟩, ?_⟩
    refine for_it (walk_list (xs := iv xs)) (fun i σ H' => ∃ y1, σ = [some (.ref a), y1] ∧ H' = H) ⟨_, rfl, rfl⟩ (fun i σ H' _ h => by obtain ⟨_, _, rfl⟩ := h; exact hA) ?_ ?_
    · rintro i x σ H2 H3 hi ⟨y1, rfl, rfl⟩ ⟨rfl, hx⟩
      obtain ⟨hi2, rfl⟩ := iv_get hx
      exact ⟨.int (g xs i), rfl, g xs i, rfl, true, rfl, iteF ⟨_, rfl, rfl⟩⟩
    · rintro σ H2 ⟨y1, rfl, rfl⟩
      exact q

/-! ### stepped -/
abbrev s_stepped : Stmt := topS 37
theorem sc_stepped : FnScope ["c", "parts", "number", "last", "behind", "a", "b"] ["c", "parts", "number"] (defScope s_stepped) := ⟨rfl, rfl, rfl, by decide +kernel, rfl, by decide +kernel, by decide +kernel⟩
def spStepped (K : PySem.W.Frag) : Sp := fun vs H Q _ => ∃ (pc pp : Addr) (c p : List Int) (N : Int), vs = [.ref pc, .ref pp, .int N] ∧ SqL K H pc (iv c) ∧ SqL K H pp (iv p) ∧ p.length = c.length ∧ 0 < c.length ∧ c.length ≤ 16 ∧ 0 < N ∧ Bits 8000 c ∧ Bits 8000 p ∧ RetL Q H (LG.stepped N c p)
theorem ok_stepped (F : Fun K "stepped" "stepped" s_stepped f fd) (B : Bi mg) : FnOk P w K mg base CX0 1 f fd ["c", "parts", "number"] (spStepped K) := by
  refine F.ok sc_stepped (fun vs H Q E h => ?_) (fun cdv A outer s H vs Q E hr h => ?_)
  · obtain ⟨pc, pp, c, p, N, rfl, _⟩ := h
    rfl
  · obtain ⟨pc, pp, c, p, N, rfl, hc, hp, hl, h0, h16, hN, bc, bp, q⟩ := h
    refine ⟨_, (pss_cons (ps_set (i := 3) sc_stepped.nd rfl (.inr rfl) (pe_ix (r := rIxL K) ix_list (pv 1) (pe_un un_neg pe_int) (fun _ _ => rfl)))
      (pss_cons (ps_set (i := 4) sc_stepped.nd rfl (.inl rfl) (pe_op op_cat (pe_lst (pa_cons pe_int pa_nil)) (pe_slice (r := rSlL K) sl_list (pv 1) po_none (po_some (pe_un un_neg pe_int)))))
      (pss_one (ps_ret (pe_lc (own := [("a", 5), ("b", 6)]) (g := _) (tt := tYes) rfl sc_stepped.nd (pi_zip (by rfl) B.zip (pa_cons (pv 4) (pa_cons (pv 0) pa_nil))) (blkOk_by (N := ["c", "parts", "number", "last", "behind", "a", "b"]) (sc := defScope s_stepped) (by decide +kernel)) (fun _ _ _ _ _ => (show PG _ _ (gTup K 2 _) from pg_tup rfl (pgs_cons (pg_name (i := 5) sc_stepped.nd rfl (.inl rfl)) (pgs_cons (pg_name (i := 6) sc_stepped.nd rfl (.inl rfl)) pgs_nil)))) (fun _ _ _ _ _ => pts_nil) (fun _ _ _ _ _ => (pe_op op_mod (pe_op op_add (pv 5) (pe_op op_mulW (pv 3) (pv 6))) (pv 2)))))))), ?_⟩
    refine ⟨.ref pp, rfl, 1, rfl, pp, _, -1, _, rfl, rfl, hp, at_last (by omega), ?_⟩
    refine ⟨sz_le (by show 1 ≤ 1000000; decide), fun D nD => ?_⟩
    have s1 : Same H (upd H D (.lst [.int 0])) := same_upd nD
    refine ⟨.ref pp, rfl, 1, rfl, -1, rfl, pp, _, rfl, s1.seq hp, fun D2 nD2 => ?_⟩
    have s2 : Same (upd H D (.lst [.int 0])) (upd (upd H D (.lst [.int 0])) D2 (.lst (cutV (iv p) none (some (-1))))) := same_upd nD2
    have hD : (upd (upd H D (.lst [.int 0])) D2 (.lst (cutV (iv p) none (some (-1))))) D = some (.lst [.int 0]) := s2 _ _ upd_same
    have lcut : cutV (iv p) none (some (-1)) = iv (p.take (p.length - 1)) := by rw [cut_last, iv_take, iv_len]
    refine ⟨D, D2, _, _, rfl, rfl, hD, upd_same, sz_le (by rw [lcut, iv_len, List.length_take]; show 1 + _ ≤ _; omega), fun D3 nD3 => ?_⟩
    have s3 := same_upd (o := .lst ([V.int 0] ++ cutV (iv p) none (some (-1)))) nD3
    have s03 := (s1.trans s2).trans s3
    have eb : [V.int 0] ++ cutV (iv p) none (some (-1)) = iv (0 :: p.take (p.length - 1)) := by rw [lcut]; rfl
    generalize hH3 : upd (upd (upd H D (.lst [.int 0])) D2 (.lst (cutV (iv p) none (some (-1))))) D3 (.lst ([V.int 0] ++ cutV (iv p) none (some (-1)))) = H3 at *
    have hb : SqL K H3 D3 (iv (0 :: p.take (p.length - 1))) := .inl (.inl (by rw [← hH3, upd_same, eb]))
    have lb : (0 :: p.take (p.length - 1)).length = c.length := by rw [List.length_cons, List.length_take]; omega
    refine ⟨.ref D3, rfl, .ref pc, rfl, D3, pc, _, _, rfl, hb, s03.seq hc, fun D4 nD4 => ?_⟩
    refine lc_acc (walk_zip (n := c.length) (by rw [iv_len, iv_len, lb, Nat.min_self])) nD4 (by omega) (fun j y _ => y = .int (g (LG.stepped N c p) j)) (fun _ _ _ _ h _ => h) (fun H s4 => ⟨s4.seq hb, s4.seq (s03.seq hc)⟩)
      (fun j x H4 H5 hj s4 _ hy R' N' qq => ?_) (fun H4 ys s4 hD4 hl4 hacc => ?_)
    · obtain ⟨T, u1, u2, rfl, nT, rfl, e1, e2⟩ := hy
      obtain ⟨hj1, rfl⟩ := iv_get e1
      obtain ⟨hj2, rfl⟩ := iv_get e2
      refine ⟨T, _, rfl, .inl (.inl upd_same), rfl, _, _, rfl, _, _, rfl, rfl, rfl, yes_ok ?_⟩
      refine ⟨.int (g (0 :: p.take (p.length - 1)) j), rfl, .int (g p (p.length - 1)), rfl, .int (g c j), rfl, _, _, rfl, rfl, wide_mul (bp _) (bc _) (by decide) (by decide) (by decide), _, _, rfl, rfl, .int N, rfl, _, _, rfl, rfl, hN, qq _ _ (same_upd nT) ?_⟩
      unfold LG.stepped
      rw [g_zip hj1 hj2]
    · refine q H4 D4 (s03.trans s4) (s03.free nD4) ?_
      rw [hD4]
      congr 2
      exact iv_of hl4 hacc (by rw [stepped_len hl (by omega)]; omega) fun j hj => rfl

/-! ### joined -/
structure CJoined (P : Program) (w : World) (K : PySem.W.Frag) (mg : Str → Option Value) (base : Heap) : Prop where
  stepped : Cal P w K mg base "stepped" ["c", "parts", "number"] (spStepped K) 1
abbrev s_joined : Stmt := topS 38
theorem sc_joined : FnScope ["c", "parts", "number", "size", "found", "part", "k", "a", "b"] ["c", "parts", "number"] (defScope s_joined) := ⟨rfl, rfl, rfl, by decide +kernel, rfl, by decide +kernel, by decide +kernel⟩
theorem zip_bits {N : Int} (h0 : 0 < N) (h1 : N < 10 ^ 30) (F : Int → Int → Int) (xs ys : List Int) : Bits 100 (List.zipWith (fun a b => F a b % N) xs ys) := fun i => by
  by_cases h : i < xs.length ∧ i < ys.length
  · rw [g_zip h.1 h.2]; exact emod_bits h0 h1
  · rw [g_ge (by rw [List.length_zipWith]; omega)]; exact Nat.two_pow_pos _
def spJoined (K : PySem.W.Frag) : Sp := fun vs H Q _ => ∃ (pc pp : Addr) (c p : List Int) (N : Int) (S : Nat → Int) (e : Nat), vs = [.ref pc, .ref pp, .int N] ∧ SqL K H pc (iv c) ∧ SqL K H pp (iv p) ∧ 0 < c.length ∧ c.length ≤ 16 ∧ 0 < N ∧ N < 10 ^ 30 ∧ Bits 8000 c ∧ Bits 100 p ∧
  Goes c S ∧ Rep N S c.length p (fun n => S (n + e)) ∧ ∀ r, Rep N S c.length r (fun n => S (n + 2 * e)) → Bits 100 r → RetL Q H r
theorem ok_joined (F : Fun K "joined" "joined" s_joined f fd) (B : Bi mg) (C : CJoined P w K mg base) : FnOk P w K mg base CX0 2 f fd ["c", "parts", "number"] (spJoined K) := by
  refine F.ok sc_joined (fun vs H Q E h => ?_) (fun cdv A outer s H vs Q E hr h => ?_)
  · obtain ⟨pc, pp, c, p, N, S, e, rfl, _⟩ := h
    rfl
  · obtain ⟨pc, pp, c, p, N, S, e, rfl, hc, hp, h0, h16, hN, hN2, bc, bp, gS, rp, q⟩ := h
    have lp := rp.1
    refine ⟨_, (pss_cons (ps_set (i := 3) sc_joined.nd rfl (.inl rfl) (pe_callB (r := rLenSeq K) call_len_seq (by rfl) B.len (by decide +kernel) (pa_cons (pv 0) pa_nil)))
      (pss_cons (ps_setLc (i := 4) (own := [("k", 6)]) (g := _) (tt := tYes) rfl sc_joined.nd rfl rfl (sw_true rfl rfl rfl (by decide +kernel)) (pi_range1 rfl B.range (pa_cons (pv 3) pa_nil)) (blkOk_by (N := ["c", "parts", "number", "size", "found", "part", "k", "a", "b"]) (sc := defScope s_joined) (by decide +kernel)) (fun _ _ _ _ _ => (pg_name (i := 6) sc_joined.nd rfl (.inl rfl))) (fun _ _ _ _ _ => pts_nil) (fun _ _ _ _ _ => pe_int))
      (pss_cons (ps_for PassesOwn.never rfl (pi_reversed (by rfl) B.reversed (pa_cons (pv 1) pa_nil)) (pg_name (i := 5) sc_joined.nd rfl (.inr rfl))
        (pss_cons (ps_set (i := 4) sc_joined.nd rfl (.inl rfl) (pe_cal C.stepped hr (by decide) (pa_cons (pv 0) (pa_cons (pv 4) (pa_cons (pv 2) pa_nil)))))
        (pss_one (ps_setLc (i := 4) (own := [("a", 7), ("b", 8)]) (g := _) (tt := tYes) rfl sc_joined.nd rfl rfl (sw_true rfl rfl rfl (by decide +kernel)) (pi_zip (by rfl) B.zip (pa_cons (pv 4) (pa_cons (pv 1) pa_nil))) (blkOk_by (N := ["c", "parts", "number", "size", "found", "part", "k", "a", "b"]) (sc := defScope s_joined) (by decide +kernel)) (fun _ _ _ _ _ => (show PG _ _ (gTup K 2 _) from pg_tup rfl (pgs_cons (pg_name (i := 7) sc_joined.nd rfl (.inl rfl)) (pgs_cons (pg_name (i := 8) sc_joined.nd rfl (.inl rfl)) pgs_nil)))) (fun _ _ _ _ _ => pts_nil) (fun _ _ _ _ _ => (pe_op op_mod (pe_op op_add (pv 7) (pe_op op_mulW (pv 5) (pv 8))) (pv 2)))))))
      (pss_one (ps_ret (pv 4)))))), ?_⟩
    refine ⟨.ref pc, rfl, pc, _, rfl, .inl hc, ?_⟩
    refine ⟨_, rfl, _, rfl, by rw [iv_len]; omega, by rw [iv_len]; omega, fun D nD => ?_⟩
    rw [iv_len, Int.toNat_natCast]
    refine lc_acc (walk_range (lo := 0) (n := c.length)) nD (by omega) (fun k y _ => y = .int 0) (fun _ _ _ _ h _ => h) (fun _ _ => trivial)
      (fun k x H1 H2 hk s1 _ hy R' N' qq => ⟨rfl, yes_ok (qq _ _ (by obtain ⟨rfl, _⟩ := hy; exact Same.refl _) rfl)⟩) (fun H1 ys s1 hD hl hacc => ?_)
    have ey := iv_rep hl hacc
    subst ey
    refine ⟨.ref pp, rfl, pp, iv p, rfl, s1.seq hp, ?_⟩
    refine for_it (walk_rev (xs := iv p)) (fun i σ H' => ∃ (fo : Addr) (fs : List Int) (y5 y6 y7 y8 : Option V), σ = [some (.ref pc), some (.ref pp), some (.int N), some (.int (c.length : Nat)), some (.ref fo), y5, y6, y7, y8] ∧ Same H H' ∧
      H' fo = some (.lst (iv fs)) ∧ H fo = none ∧ Bits 100 fs ∧ Rep N S c.length fs (joinSeq p (fun n => S (n + e)) c.length (c.length - i))) ?_ ?_ ?_ ?_
    · refine ⟨D, _, _, _, _, _, rfl, s1, hD, nD, fun i => ?_, join_start⟩
      by_cases hi : i < (List.replicate c.length (0 : Int)).length
      · rw [g_lt hi, List.getElem_replicate]; exact Nat.two_pow_pos _
      · rw [g_ge (by omega)]; exact Nat.two_pow_pos _
    · rintro i σ H2 hi ⟨fo, fs, y5, y6, y7, y8, rfl, s2, _⟩
      exact s2.seq hp
    · rintro i x σ H2 H3 hi ⟨fo, fs, y5, y6, y7, y8, rfl, s2, hf, nf, bf, rf⟩ ⟨rfl, hx⟩
      rw [iv_len] at hi hx
      obtain ⟨hi2, rfl⟩ := iv_get hx
      have et : p.length - 1 - i = c.length - (i + 1) := by omega
      rw [et] at *
      refine ⟨.ref pc, rfl, .ref fo, rfl, .int N, rfl, pc, fo, c, fs, N, rfl, s2.seq hc, .inl (.inl hf), rf.1, h0, h16, hN, bc, bf.mono (by decide), fun H4 p4 s4 np4 hp4 => ?_⟩
      have s24 := s2.trans s4
      refine ⟨.ref p4, rfl, .ref pp, rfl, p4, pp, _, _, rfl, .inl (.inl hp4), s24.seq hp, fun D2 nD2 => ?_⟩
      have lst : (LG.stepped N c fs).length = c.length := by rw [stepped_len rf.1 (by rw [rf.1]; exact h0), rf.1]
      refine lc_acc (walk_zip (n := c.length) (by rw [iv_len, iv_len, lst, lp, Nat.min_self])) nD2 (by omega) (fun j y _ => y = .int (g (addMul N (g p (c.length - (i + 1))) (LG.stepped N c fs) p) j)) (fun _ _ _ _ h _ => h) (fun H s5 => ⟨s5.seq (.inl (.inl hp4)), s5.seq (s24.seq hp)⟩)
        (fun j x H5 H6 hj s5 _ hy R' N' qq => ?_) (fun H5 ys s5 hD2 hl2 hacc2 => ?_)
      · obtain ⟨T, u1, u2, rfl, nT, rfl, e1, e2⟩ := hy
        obtain ⟨hj1, rfl⟩ := iv_get e1
        obtain ⟨hj2, rfl⟩ := iv_get e2
        refine ⟨T, _, rfl, .inl (.inl upd_same), rfl, _, _, rfl, _, _, rfl, rfl, rfl, yes_ok ?_⟩
        refine ⟨.int (g (LG.stepped N c fs) j), rfl, .int (g p (c.length - (i + 1))), rfl, .int (g p j), rfl, _, _, rfl, rfl, wide_mul (bp _) (bp _) (by decide) (by decide) (by decide), _, _, rfl, rfl, .int N, rfl, _, _, rfl, rfl, hN, qq _ _ (same_upd nT) ?_⟩
        unfold addMul
        rw [g_zip hj1 hj2]
      · have ez : ys = iv (addMul N (g p (c.length - (i + 1))) (LG.stepped N c fs) p) := iv_of hl2 hacc2 (by unfold addMul; rw [List.length_zipWith, lst, lp, Nat.min_self]) fun j hj => rfl
        rw [ez] at hD2
        refine ⟨D2, _, _, _, _, _, rfl, s24.trans s5, hD2, s24.free nD2, zip_bits hN hN2 (fun a b => a + g p (c.length - (i + 1)) * b) _ _, ?_⟩
        exact join_turn gS (by omega) rp (by rw [show c.length - (i + 1) + 1 = c.length - i by omega]; exact rf)
    · rintro σ H2 ⟨fo, fs, y5, y6, y7, y8, rfl, s2, hf, nf, bf, rf⟩
      rw [iv_len, lp, Nat.sub_self] at rf
      exact ⟨.ref fo, rfl, q fs (join_end rp rf) bf H2 fo s2 nf hf⟩
end
end LG

/-! ## W11 -/
set_option maxRecDepth 100000
set_option maxHeartbeats 4000000
namespace LG
open PySem PySem.Spec PyProof.Rows L2

def isBits (bs : List Int) : Prop := ∀ i, i < bs.length → g bs i = 0 ∨ g bs i = 1

section
variable {P : Program} {w : World} {K : PySem.W.Frag} {mg : Str → Option Value} {base : Heap} {f : Addr} {fd : FuncData}

/-! ### bits_of -/
abbrev s_bits_of : Stmt := topS 39
theorem sc_bits_of : FnScope ["age", "found"] ["age"] (defScope s_bits_of) := ⟨rfl, rfl, rfl, by decide +kernel, rfl, by decide +kernel, by decide +kernel⟩
def spBitsOf : Sp := fun vs H Q _ => ∃ n : Nat, vs = [.int n] ∧ n < 2 ^ 200 ∧ ∀ bs, isBits bs → bval bs 0 = n → bs.length ≤ 200 → RetL Q H bs
theorem ok_bits_of (F : Fun K "bits_of" "bits_of" s_bits_of f fd) : FnOk P w K mg base CX0 1 f fd ["age"] spBitsOf := by
  refine F.ok sc_bits_of (fun vs H Q E h => ?_) (fun cdv A outer s H vs Q E hr h => ?_)
  · obtain ⟨n, rfl, _⟩ := h
    rfl
  · obtain ⟨n, rfl, hn, q⟩ := h
    refine ⟨_, (pss_cons (ps_set (i := 1) sc_bits_of.nd rfl (.inl rfl) (pe_lst pa_nil))
      (pss_cons (ps_while PassesOwn.never (pt_cmpR op_gt (pv 0) pe_int (nomark _))
        (pss_cons (ps_expr (pe_bm PySem.F.plainAttrs_list PySem.F.slot_list_append PySem.F.type_list_append mt_append (pv 1) (pa_cons (pe_op op_mod (pv 0) pe_int) pa_nil)))
        (pss_one (ps_set (i := 0) sc_bits_of.nd rfl (.inl rfl) (pe_op op_fdiv (pv 0) pe_int)))))
      (pss_one (ps_ret (pv 1))))), ?_⟩
    refine ⟨Nat.zero_le _, fun D nD => ?_⟩
    refine while_by (fun σ H' => ∃ (e : Nat) (bs : List Int), σ = [some (.int e), some (.ref D)] ∧ Same H H' ∧ H' D = some (.lst (iv bs)) ∧ isBits bs ∧ bval bs e = n ∧ bs.length ≤ 200 ∧ e * 2 ^ bs.length ≤ n) (fun σ _ => natOf σ[0]?)
      ⟨n, [], rfl, same_upd nD, upd_same, fun i h => by simp at h, rfl, Nat.zero_le _, by simp⟩ ?_ ?_
    · rintro σ H2 ⟨e, bs, rfl, s2, hD, ib, hb, hl, hs⟩
      refine ⟨.int e, rfl, e, 0, rfl, rfl, _, rfl, ite2 (fun h => ?_) (fun h => ?_)⟩
      · have e0 : 0 < e := by have := of_decide_eq_true h; omega
        have l2 : bs.length < 200 := by
          apply Classical.byContradiction
          intro hn2
          have h1 : 2 ^ 200 ≤ 2 ^ bs.length := Nat.pow_le_pow_right (by decide) (by omega)
          have h2 : 1 * 2 ^ bs.length ≤ e * 2 ^ bs.length := Nat.mul_le_mul_right _ e0
          omega
        refine ⟨.ref D, rfl, .inl ⟨rfl, _, .inl (.inl hD)⟩, .int e, rfl, e, 2, rfl, rfl, (show (0 : Int) < 2 by decide), D, _, .int ((e : Int) % 2), rfl, rfl, hD, sz_lt (by rw [iv_len]; omega), ?_⟩
        refine ⟨.int e, rfl, e, 2, rfl, rfl, ⟨by decide, by decide⟩, ⟨e / 2, bs ++ [(e : Int) % 2], rfl, ?_, ?_, ?_, ?_, ?_, ?_⟩, ?_⟩
        · intro b o hb
          rw [upd_ne (ne_of_none hb nD)]
          exact s2 _ _ hb
        · rw [upd_same, iv_snoc]
        · intro i hi
          rw [List.length_append] at hi
          by_cases h2 : i < bs.length
          · rw [g_app_l h2]; exact ib i h2
          · have ei : i = bs.length + 0 := by
              simp at hi
              omega
            rw [ei, g_app_r]
            show (e : Int) % 2 = 0 ∨ (e : Int) % 2 = 1
            omega
        · rw [bval_snoc, ← hb]
          congr 1
          have : ((e / 2 : Nat) : Int) = (e : Int) / 2 := by omega
          rw [this]
          omega
        · rw [List.length_append]; show _ + 1 ≤ _; omega
        · rw [List.length_append]
          show e / 2 * 2 ^ (bs.length + 1) ≤ n
          rw [Nat.pow_succ]
          have h1 : e / 2 * 2 ≤ e := by omega
          have h2 : (e / 2 * 2) * 2 ^ bs.length ≤ e * 2 ^ bs.length := Nat.mul_le_mul_right _ h1
          have h3 : e / 2 * (2 ^ bs.length * 2) = (e / 2 * 2) * 2 ^ bs.length := by rw [Nat.mul_comm (2 ^ bs.length) 2, Nat.mul_assoc]
          omega
        · show ((e : Int) / 2).natAbs < (e : Int).natAbs
          omega
      · have z : e = 0 := by
          have h' : ¬ ((0 : Int) < (e : Int)) := fun hh => h (decide_eq_true hh)
          omega
        subst z
        exact ⟨.ref D, rfl, q bs ib hb hl H2 D s2 nD hD⟩
    · rintro σ H Q Q' hQ ⟨v, h1, i, j, h2, h3, k, h4, h5⟩
      exact ⟨v, h1, i, j, h2, h3, k, h4, hQ _ _ h5⟩

/-! ### unwound -/
structure CUnwound (P : Program) (w : World) (K : PySem.W.Frag) (mg : Str → Option Value) (base : Heap) : Prop where
  is_row : Cal P w K mg base "is_row" ["thing"] (spIsRow K) 2
  need_far : Cal P w K mg base "need_far" ["age", "number"] spNeedFar 2
  joined : Cal P w K mg base "joined" ["c", "parts", "number"] (spJoined K) 2
  stepped : Cal P w K mg base "stepped" ["c", "parts", "number"] (spStepped K) 1
  bits_of : Cal P w K mg base "bits_of" ["age"] spBitsOf 1
abbrev s_unwound : Stmt := topS 40
theorem sc_unwound : FnScope ["c", "starts", "age", "number", "parts", "bit", "k", "a", "b"] ["c", "starts", "age", "number"] (defScope s_unwound) := ⟨rfl, rfl, rfl, by decide +kernel, rfl, by decide +kernel, by decide +kernel⟩
def spUnwound (K : PySem.W.Frag) : Sp := fun vs H Q _ => ∃ (pc ps : Addr) (c st : List Int) (n : Nat) (N : Int) (S : Nat → Int), vs = [.ref pc, .ref ps, .int n, .int N] ∧ SqL K H pc (iv c) ∧ SqL K H ps (iv st) ∧ st.length = c.length ∧ c.length ≤ 16 ∧ Bits 8000 c ∧ Bits 8000 st ∧
  Goes c S ∧ (∀ i, i < c.length → g st i = S i) ∧ (n : Int) < 10 ^ 60 ∧ 1 ≤ N ∧ N < 10 ^ 30 ∧ ∀ H', Same H H' → Q (.int (S n % N)) H'
theorem drop_next {bs : List Int} {i : Nat} (h : i < bs.length) : bval (bs.drop (bs.length - (i + 1))) 0 = g bs (bs.length - 1 - i) + 2 * bval (bs.drop (bs.length - i)) 0 := by
  have e : bs.drop (bs.length - (i + 1)) = g bs (bs.length - 1 - i) :: bs.drop (bs.length - i) := by
    rw [show bs.length - i = (bs.length - (i + 1)) + 1 by omega, show bs.length - 1 - i = bs.length - (i + 1) by omega, g_lt (by omega)]
    exact (List.drop_eq_getElem_cons (by omega))
  rw [e]; rfl
theorem ok_unwound (F : Fun K "unwound" "unwound" s_unwound f fd) (B : Bi mg) (C : CUnwound P w K mg base) : FnOk P w K mg base CX0 3 f fd ["c", "starts", "age", "number"] (spUnwound K) := by
  refine F.ok sc_unwound (fun vs H Q E h => ?_) (fun cdv A outer s H vs Q E hr h => ?_)
  · obtain ⟨pc, ps, c, st, n, N, S, rfl, _⟩ := h
    rfl
  · obtain ⟨pc, ps, c, st, n, N, S, rfl, hc, hs, hl, h16, bc, bs, gS, hst, hn, hN1, hN2, q⟩ := h
    have hN : 0 < N := by omega
    refine ⟨_, (pss_cons (ps_if (PW.pt (pw_or (pt_not (pt_val (pe_cal C.is_row hr (by decide) (pa_cons (pv 0) pa_nil)))) (pw_or (pt_not (pt_val (pe_cal C.is_row hr (by decide) (pa_cons (pv 1) pa_nil)))) (pw_or1 (pt_cmpR op_ne (pe_callB (r := rLenSeq K) call_len_seq (by rfl) B.len (by decide +kernel) (pa_cons (pv 1) pa_nil)) (pe_callB (r := rLenSeq K) call_len_seq (by rfl) B.len (by decide +kernel) (pa_cons (pv 0) pa_nil)) (nomark _))))))
        (pss_one ps_never)
        pss_nil)
      (pss_cons (ps_expr (pe_cal C.need_far hr (by decide) (pa_cons (pv 2) (pa_cons (pv 3) pa_nil))))
      (pss_cons (ps_if (pt_cmpR op_eq (pe_callB (r := rLenSeq K) call_len_seq (by rfl) B.len (by decide +kernel) (pa_cons (pv 0) pa_nil)) pe_int (nomark _))
        (pss_one (ps_ret pe_int))
        pss_nil)
      (pss_cons (ps_setLc (i := 4) (own := [("k", 6)]) (g := _) (tt := tYes) rfl sc_unwound.nd rfl rfl (sw_true rfl rfl rfl (by decide +kernel)) (pi_range1 rfl B.range (pa_cons (pe_callB (r := rLenSeq K) call_len_seq (by rfl) B.len (by decide +kernel) (pa_cons (pv 0) pa_nil)) pa_nil)) (blkOk_by (N := ["c", "starts", "age", "number", "parts", "bit", "k", "a", "b"]) (sc := defScope s_unwound) (by decide +kernel)) (fun _ _ _ _ _ => (pg_name (i := 6) sc_unwound.nd rfl (.inl rfl))) (fun _ _ _ _ _ => pts_nil) (fun _ _ _ _ _ => (pe_callTy call_int1 (by rfl) B.int (by decide +kernel) (pa_cons (pe_cmpR op_eq (pv 6) pe_int (nomark _)) pa_nil))))
      (pss_cons (ps_for PassesOwn.never rfl (pi_reversed (by rfl) B.reversed (pa_cons (pe_cal C.bits_of hr (by decide) (pa_cons (pv 2) pa_nil)) pa_nil)) (pg_name (i := 5) sc_unwound.nd rfl (.inl rfl))
        (pss_cons (ps_set (i := 4) sc_unwound.nd rfl (.inl rfl) (pe_cal C.joined hr (by decide) (pa_cons (pv 0) (pa_cons (pv 4) (pa_cons (pv 3) pa_nil)))))
        (pss_one (ps_if (pt_cmpR op_eq (pv 5) pe_int (nomark _))
          (pss_one (ps_set (i := 4) sc_unwound.nd rfl (.inl rfl) (pe_cal C.stepped hr (by decide) (pa_cons (pv 0) (pa_cons (pv 4) (pa_cons (pv 3) pa_nil))))))
          pss_nil))))
      (pss_one (ps_ret (pe_op op_mod (pe_callB (cr_sum rfl) (by rfl) B.sum (by decide +kernel) (pa_cons (pe_lc (own := [("a", 7), ("b", 8)]) (g := _) (tt := tYes) rfl sc_unwound.nd (pi_zip (by rfl) B.zip (pa_cons (pv 4) (pa_cons (pv 1) pa_nil))) (blkOk_by (N := ["c", "starts", "age", "number", "parts", "bit", "k", "a", "b"]) (sc := defScope s_unwound) (by decide +kernel)) (fun _ _ _ _ _ => (show PG _ _ (gTup K 2 _) from pg_tup rfl (pgs_cons (pg_name (i := 7) sc_unwound.nd rfl (.inl rfl)) (pgs_cons (pg_name (i := 8) sc_unwound.nd rfl (.inl rfl)) pgs_nil)))) (fun _ _ _ _ _ => pts_nil) (fun _ _ _ _ _ => (pe_op op_mulW (pv 7) (pv 8)))) pa_nil)) (pv 3))))))))), ?_⟩
    refine ⟨.ref pc, rfl, pc, c, rfl, hc, h16, true, rfl, iteF ?_⟩
    refine ⟨.ref ps, rfl, ps, st, rfl, hs, by omega, true, rfl, iteF ?_⟩
    refine ⟨.ref ps, rfl, ps, _, rfl, .inl hs, .ref pc, rfl, pc, _, rfl, .inl hc, rfl, _, rfl, ?_⟩
    rw [iv_len, iv_len, hl, decide_eq_true rfl]
    refine iteF ?_
    refine ⟨.int n, rfl, .int N, rfl, n, N, rfl, by omega, hn, hN1, hN2, ?_⟩
    refine ⟨.ref pc, rfl, pc, _, rfl, .inl hc, rfl, _, rfl, ite2 (fun h => ?_) (fun h => ?_)⟩
    · have z : c.length = 0 := by
        have := V.int.inj (of_decide_eq_true h)
        rw [iv_len] at this
        omega
      have e : S n = 0 := by
        have := gS n
        rw [z] at this
        exact this
      have := q H (Same.refl _)
      rw [e, Int.zero_emod] at this
      exact this
    · have h0 : 0 < c.length := by
        apply Classical.byContradiction
        intro hn0
        refine h (decide_eq_true ?_)
        rw [iv_len, show c.length = 0 by omega]
        rfl
      -- parts
      refine ⟨.ref pc, rfl, pc, _, rfl, .inl hc, _, rfl, by rw [iv_len]; omega, by rw [iv_len]; omega, fun D nD => ?_⟩
      rw [iv_len, Int.toNat_natCast]
      refine lc_acc (walk_range (lo := 0) (n := c.length)) nD (by omega) (fun k y _ => y = .int (if k = 0 then 1 else 0)) (fun _ _ _ _ h _ => h) (fun _ _ => trivial)
        (fun k x H4 H5 hk s4 hD hy R' N' qq => ?_) (fun H1 ys s1 hD hl1 hacc => ?_)
      · obtain ⟨rfl, ex⟩ := hy
        obtain rfl : x = .int k := by rw [ex]; exact congrArg V.int (Int.zero_add _)
        refine ⟨rfl, yes_ok ⟨.int k, rfl, rfl, .inr ⟨_, rfl, qq _ _ (Same.refl _) ?_⟩⟩⟩
        by_cases e : k = 0
        · subst e
          have hd : decide (V.int ((0 : Nat) : Int) = V.int 0) = true := decide_eq_true rfl
          rw [hd]
          rfl
        · rw [decide_eq_false (fun z => e (by have := V.int.inj z; omega)), if_neg e]; rfl
      have em : ys = iv (markL c.length 0) := iv_of hl1 hacc (markL_len _ _) fun k hk => g_markL hk
      rw [em] at hD
      have r0 : Rep N S c.length (markL c.length 0) fun m => S (m + 0) := rep_one (markL_len _ _) h0 fun i hi => g_markL hi
      have n200 : n < 2 ^ 200 := by
        have e : (2 : Nat) ^ 200 = 1606938044258990275541962092341162602522202993782792835301376 := by decide
        rw [e]
        omega
      refine ⟨.int n, rfl, n, rfl, n200, fun bl ib vb lb H2 p2 s2 np2 hp2 => ?_⟩
      have s02 := s1.trans s2
      refine ⟨p2, iv bl, rfl, .inl (.inl hp2), ?_⟩
      refine for_it (walk_rev (xs := iv bl)) (fun i σ H' => ∃ (fo : Addr) (fs : List Int) (e : Nat) (y5 y6 y7 y8 : Option V), σ = [some (.ref pc), some (.ref ps), some (.int n), some (.int N), some (.ref fo), y5, y6, y7, y8] ∧ Same H2 H' ∧
        SqL K H' fo (iv fs) ∧ Bits 100 fs ∧ Rep N S c.length fs (fun m => S (m + e)) ∧ (e : Int) = bval (bl.drop (bl.length - i)) 0) ?_ ?_ ?_ ?_
      · refine ⟨D, _, 0, _, _, _, _, rfl, Same.refl _, s2.seq (.inl (.inl hD)), fun i => ?_, r0, ?_⟩
        · by_cases hi : i < c.length
          · rw [g_markL hi]
            have : 1 < 2 ^ 100 := by decide
            split <;> simp
          · rw [g_ge (by rw [markL_len]; omega)]; exact Nat.two_pow_pos _
        · rw [Nat.sub_zero, List.drop_length]; rfl
      · rintro i σ H3 hi ⟨fo, fs, e, y5, y6, y7, y8, rfl, s3, _⟩
        exact s3.seq (.inl (.inl hp2))
      · rintro i x σ H3 H4 hi ⟨fo, fs, e, y5, y6, y7, y8, rfl, s3, hf, bf, rf, he⟩ ⟨rfl, hx⟩
        rw [iv_len] at hi hx
        obtain ⟨hi2, rfl⟩ := iv_get hx
        have dn := drop_next hi
        have s04 := s02.trans s3
        have bit := ib _ hi2
        refine ⟨.ref pc, rfl, .ref fo, rfl, .int N, rfl, pc, fo, c, fs, N, S, e, rfl, s04.seq hc, hf, h0, h16, hN, hN2, bc, bf, gS, rf, fun r rr br H5 p5 s5 np5 hp5 => ?_⟩
        have rr2 : Rep N S c.length r fun m => S (m + 2 * e) := rr
        refine ⟨.int (g bl (bl.length - 1 - i)), rfl, rfl, _, rfl, ite2 (fun h1 => ?_) (fun h1 => ?_)⟩
        · have b1 : g bl (bl.length - 1 - i) = 1 := V.int.inj (of_decide_eq_true h1)
          refine ⟨.ref pc, rfl, .ref p5, rfl, .int N, rfl, pc, p5, c, r, N, rfl, (s04.trans s5).seq hc, .inl (.inl hp5), rr.1, h0, h16, hN, bc, br.mono (by decide), fun H6 p6 s6 np6 hp6 => ?_⟩
          refine ⟨p6, _, 2 * e + 1, _, _, _, _, rfl, (s3.trans s5).trans s6, .inl (.inl hp6), zip_bits hN hN2 (fun a b => a + g r (r.length - 1) * b) _ _, ?_, ?_⟩
          · have := rr2.step gS h0
            refine ⟨this.1, fun m => ?_⟩
            rw [this.2 m]
            show S (m + 1 + 2 * e) % N = S (m + (2 * e + 1)) % N
            rw [show m + 1 + 2 * e = m + (2 * e + 1) by omega]
          · rw [dn, b1, ← he]; omega
        · have b0 : g bl (bl.length - 1 - i) = 0 := by
            rcases bit with z | z
            · exact z
            · exact absurd (decide_eq_true (congrArg V.int z)) h1
          refine ⟨p5, r, 2 * e, _, _, _, _, rfl, s3.trans s5, .inl (.inl hp5), br, rr2, ?_⟩
          rw [dn, b0, ← he]; omega
      · rintro σ H3 ⟨fo, fs, e, y5, y6, y7, y8, rfl, s3, hf, bf, rf, he⟩
        rw [iv_len, Nat.sub_self, List.drop_zero, vb] at he
        have en : e = n := by omega
        subst en
        have s03 := s02.trans s3
        refine ⟨.ref fo, rfl, .ref ps, rfl, fo, ps, _, _, rfl, hf, s03.seq hs, fun D2 nD2 => ?_⟩
        have lf := rf.1
        refine lc_acc (walk_zip (n := c.length) (by rw [iv_len, iv_len, lf, hl, Nat.min_self])) nD2 (by omega) (fun j y _ => y = .int (g fs j * g st j)) (fun _ _ _ _ h _ => h) (fun H s5 => ⟨s5.seq hf, s5.seq (s03.seq hs)⟩)
          (fun j x H5 H6 hj s5 _ hy R' N' qq => ?_) (fun H5 ys s5 hD2 hl2 hacc2 => ?_)
        · obtain ⟨T, u1, u2, rfl, nT, rfl, e1, e2⟩ := hy
          obtain ⟨hj1, rfl⟩ := iv_get e1
          obtain ⟨hj2, rfl⟩ := iv_get e2
          exact ⟨T, _, rfl, .inl (.inl upd_same), rfl, _, _, rfl, _, _, rfl, rfl, rfl, yes_ok ⟨.int (g fs j), rfl, .int (g st j), rfl, _, _, rfl, rfl, wide_mul (bf _) (bs _) (by decide) (by decide) (by decide), qq _ _ (same_upd nT) rfl⟩⟩
        · have ez : ys = iv (List.zipWith (fun a b => a * b) fs st) := iv_of hl2 hacc2 (by rw [List.length_zipWith, lf, hl, Nat.min_self]) fun j hj => by rw [g_zip (by omega) (by omega)]
          rw [ez] at hD2
          refine ⟨D2, _, rfl, .inl (.inl hD2), .int N, rfl, _, _, rfl, rfl, hN, ?_⟩
          have e1 : (List.zipWith (fun a b => a * b) fs st).sum % N = S e % N := by
            rw [sum_sm, List.length_zipWith, lf, hl, Nat.min_self]
            have h2 : sm c.length (fun i => g fs i * S (0 + i)) % N = S (0 + e) % N := rf.2 0
            rw [show (0 + e) = e by omega] at h2
            rw [← h2]
            congr 1
            exact sm_congr fun i hi => by rw [g_zip (by omega) (by omega), hst i hi, Nat.zero_add]
          have h3 := q H5 (s03.trans s5)
          rw [← e1] at h3
          exact h3
end
end LG

/-! ## W12 -/
set_option maxRecDepth 100000
set_option maxHeartbeats 4000000
namespace LG
open PySem PySem.Spec PyProof.Rows L2

theorem sg_len (b : Bk) : (sOf b.sg).length = b.k := by rw [sOf_len, List.length_map]
section
variable {P : Program} {w : World} {K : PySem.W.Frag} {mg : Str → Option Value} {base : Heap} {f : Addr} {fd : FuncData}

/-! ### all_ones -/
structure CLetters (P : Program) (w : World) (K : PySem.W.Frag) (mg : Str → Option Value) (base : Heap) : Prop where
  letters : Cal P w K mg base "letters" ["book"] (spLetters K) 1
abbrev s_all_ones : Stmt := topS 42
theorem sc_all_ones : FnScope ["book", "letter"] ["book"] (defScope s_all_ones) := ⟨rfl, rfl, rfl, by decide +kernel, rfl, by decide +kernel, by decide +kernel⟩
def spAllOnes (K : PySem.W.Frag) : Sp := fun vs H Q _ => ∃ (a : Addr) (b : Bk), vs = [.ref a] ∧ BookAt K H a b ∧ b.k ≤ 100 ∧ RetL Q H (List.replicate b.k 1)
theorem ok_all_ones (F : Fun K "all_ones" "all_ones" s_all_ones f fd) (C : CLetters P w K mg base) : FnOk P w K mg base CX0 2 f fd ["book"] (spAllOnes K) := by
  refine F.ok sc_all_ones (fun vs H Q E h => ?_) (fun cdv A outer s H vs Q E hr h => ?_)
  · obtain ⟨a, b, rfl, _⟩ := h
    rfl
  · obtain ⟨a, b, rfl, hb, hk, q⟩ := h
    refine ⟨_, (pss_one (ps_ret (pe_lc (own := [("letter", 1)]) (g := _) (tt := tYes) rfl sc_all_ones.nd (pi_str (pe_cal C.letters hr (by decide) (pa_cons (pv 0) pa_nil))) (blkOk_by (N := ["book", "letter"]) (sc := defScope s_all_ones) (by decide +kernel)) (fun _ _ _ _ _ => (pg_name (i := 1) sc_all_ones.nd rfl (.inl rfl))) (fun _ _ _ _ _ => pts_nil) (fun _ _ _ _ _ => pe_int)))), ?_⟩
    refine ⟨.ref a, rfl, a, b, rfl, hb, hk, fun H1 s1 => ⟨_, rfl, fun D nD => ?_⟩⟩
    have e : (sOf b.sg).cps.size = b.k := sg_len b
    refine lc_acc (walk_str (z := sOf b.sg)) nD (by rw [e]; omega) (fun i y _ => y = .int 1) (fun _ _ _ _ h _ => h) (fun H sm => trivial)
      (fun i x H2 H' hi s2 hD hy R N qq => ?_) (fun H2 ys s2 hD hl hacc => ?_)
    · obtain ⟨rfl, c, hc, rfl⟩ := hy
      exact ⟨rfl, yes_ok (qq _ _ (Same.refl _) rfl)⟩
    · have ey := iv_rep hl hacc
      rw [e] at ey
      rw [ey] at hD
      exact q H2 D (s1.trans s2) (s1.free nD) hD

/-! ### both_sizes -/
abbrev s_both_sizes : Stmt := topS 43
theorem sc_both_sizes : FnScope ["one", "other"] ["one", "other"] (defScope s_both_sizes) := ⟨rfl, rfl, rfl, by decide +kernel, rfl, by decide +kernel, by decide +kernel⟩
def spBothSizes (K : PySem.W.Frag) : Sp := fun vs H Q _ => ∃ (a a' : Addr) (b b' : Bk), vs = [.ref a, .ref a'] ∧ BookAt K H a b ∧ BookAt K H a' b' ∧ b.k ≤ 100 ∧ b'.k ≤ 100 ∧ ∀ H', Same H H' → Q (.int (b.k + b'.k : Nat)) H'
theorem ok_both_sizes (F : Fun K "both_sizes" "both_sizes" s_both_sizes f fd) (B : Bi mg) (C : CLetters P w K mg base) : FnOk P w K mg base CX0 2 f fd ["one", "other"] (spBothSizes K) := by
  refine F.ok sc_both_sizes (fun vs H Q E h => ?_) (fun cdv A outer s H vs Q E hr h => ?_)
  · obtain ⟨a, a', b, b', rfl, _⟩ := h
    rfl
  · obtain ⟨a, a', b, b', rfl, hb, hb', hk, hk', q⟩ := h
    refine ⟨_, (pss_one (ps_ret (pe_op op_add (pe_callB call_len_str (by rfl) B.len (by decide +kernel) (pa_cons (pe_cal C.letters hr (by decide) (pa_cons (pv 0) pa_nil)) pa_nil)) (pe_callB call_len_str (by rfl) B.len (by decide +kernel) (pa_cons (pe_cal C.letters hr (by decide) (pa_cons (pv 1) pa_nil)) pa_nil))))), ?_⟩
    refine ⟨.ref a, rfl, a, b, rfl, hb, hk, fun H1 s1 => ⟨_, rfl, sz_le (by rw [sg_len]; omega), ?_⟩⟩
    refine ⟨.ref a', rfl, a', b', rfl, s1.book hb', hk', fun H2 s2 => ⟨_, rfl, sz_le (by rw [sg_len]; omega), _, _, rfl, rfl, ?_⟩⟩
    have h := q H2 (s1.trans s2)
    have e : ((sOf b.sg).length : Int) + ((sOf b'.sg).length : Int) = ((b.k + b'.k : Nat) : Int) := by rw [sg_len, sg_len]; omega
    rw [← e] at h
    exact h

/-! ### weights_alike -/
def RetAlike (Q : VK) (H : Hp) (b b' : Bk) : Prop :=
  (∀ (H' : Hp) (t : Addr) (n : Nat), Same H H' → n < b.k + b'.k → (b.cnt n).sum ≠ (b'.cnt n).sum → (∀ m, m < n → (b.cnt m).sum = (b'.cnt m).sum) → H' t = some (.tup [.str "part", .int n]) → Q (.ref t) H') ∧
  (∀ (H' : Hp) (t p : Addr) (c : List Int), Same H H' → TieOK (bothB b b') (b.k + b'.k) c → (∀ m, m < b.k + b'.k → (b.cnt m).sum = (b'.cnt m).sum) → H' p = some (.lst (iv c)) → H' t = some (.tup [.str "alike", .ref p]) → Q (.ref t) H')
structure CWeights (P : Program) (w : World) (K : PySem.W.Frag) (mg : Str → Option Value) (base : Heap) : Prop where
  both_sizes : Cal P w K mg base "both_sizes" ["one", "other"] (spBothSizes K) 2
  first_weights : Cal P w K mg base "first_weights" ["book", "weights", "many"] (spFirstWeights K) 4
  tie : Cal P w K mg base "tie" ["one", "other"] (spTie K) 6
abbrev s_weights_alike : Stmt := topS 44
theorem sc_weights_alike : FnScope ["one", "weights", "other", "others", "many", "mine", "theirs", "age"] ["one", "weights", "other", "others"] (defScope s_weights_alike) := ⟨rfl, rfl, rfl, by decide +kernel, rfl, by decide +kernel, by decide +kernel⟩
def spWeightsAlike (K : PySem.W.Frag) : Sp := fun vs H Q _ => ∃ (a a' u u' : Addr) (b b' : Bk), vs = [.ref a, .ref u, .ref a', .ref u'] ∧ BookAt K H a b ∧ BookAt K H a' b' ∧ BkOK b ∧ BkOK b' ∧
  SqL K H u (iv (List.replicate b.k 1)) ∧ SqL K H u' (iv (List.replicate b'.k 1)) ∧ RetAlike Q H b b'
theorem ok_weights_alike (F : Fun K "weights_alike" "weights_alike" s_weights_alike f fd) (B : Bi mg) (C : CWeights P w K mg base) : FnOk P w K mg base CX0 7 f fd ["one", "weights", "other", "others"] (spWeightsAlike K) := by
  refine F.ok sc_weights_alike (fun vs H Q E h => ?_) (fun cdv A outer s H vs Q E hr h => ?_)
  · obtain ⟨a, a', u, u', b, b', rfl, _⟩ := h
    rfl
  · obtain ⟨a, a', u, u', b, b', rfl, hb, hb', ok, ok', hu, hu', q1, q2⟩ := h
    have k5 := ok.k
    have k5' := ok'.k
    refine ⟨_, (pss_cons (ps_set (i := 4) sc_weights_alike.nd rfl (.inl rfl) (pe_cal C.both_sizes hr (by decide) (pa_cons (pv 0) (pa_cons (pv 2) pa_nil))))
      (pss_cons (ps_set (i := 5) sc_weights_alike.nd rfl (.inl rfl) (pe_cal C.first_weights hr (by decide) (pa_cons (pv 0) (pa_cons (pv 1) (pa_cons (pv 4) pa_nil)))))
      (pss_cons (ps_set (i := 6) sc_weights_alike.nd rfl (.inl rfl) (pe_cal C.first_weights hr (by decide) (pa_cons (pv 2) (pa_cons (pv 3) (pa_cons (pv 4) pa_nil)))))
      (pss_cons (ps_for PassesOwn.never rfl (pi_range1 rfl B.range (pa_cons (pv 4) pa_nil)) (pg_name (i := 7) sc_weights_alike.nd rfl (.inl rfl))
        (pss_one (ps_if (pt_cmpR op_ne (pe_ix (r := rIxL K) ix_list (pv 5) (pv 7) (fun _ _ => rfl)) (pe_ix (r := rIxL K) ix_list (pv 6) (pv 7) (fun _ _ => rfl)) (nomark _))
          (pss_one (ps_ret (pe_tup (pa_cons pe_str (pa_cons (pv 7) pa_nil)))))
          pss_nil)))
      (pss_one (ps_ret (pe_tup (pa_cons pe_str (pa_cons (pe_cal C.tie hr (by decide) (pa_cons (pv 0) (pa_cons (pv 2) pa_nil))) pa_nil))))))))), ?_⟩
    refine ⟨.ref a, rfl, .ref a', rfl, a, a', b, b', rfl, hb, hb', by omega, by omega, fun H1 s1 => ?_⟩
    refine ⟨.ref a, rfl, .ref u, rfl, .int (b.k + b'.k : Nat), rfl, a, u, b, b.k + b'.k, rfl, s1.book hb, ok, s1.seq hu, by omega, fun H2 p s2 np hp => ?_⟩
    have s02 := s1.trans s2
    refine ⟨.ref a', rfl, .ref u', rfl, .int (b.k + b'.k : Nat), rfl, a', u', b', b.k + b'.k, rfl, s02.book hb', ok', s02.seq hu', by omega, fun H3 p' s3 np' hp' => ?_⟩
    have s03 := s02.trans s3
    refine ⟨.int (b.k + b'.k : Nat), rfl, ((b.k + b'.k : Nat) : Int), rfl, by omega, by omega, ?_⟩
    rw [Int.toNat_natCast]
    refine for_it (walk_range (lo := 0) (n := b.k + b'.k)) (fun i σ H' => ∃ y7, σ = [some (.ref a), some (.ref u), some (.ref a'), some (.ref u'), some (.int (b.k + b'.k : Nat)), some (.ref p), some (.ref p'), y7] ∧ H' = H3 ∧
      ∀ m, m < i → (b.cnt m).sum = (b'.cnt m).sum) ⟨_, rfl, rfl, fun m hm => by omega⟩ (fun _ _ _ _ _ => trivial) ?_ ?_
    · rintro i x σ H4 H5 hi ⟨y7, rfl, rfl, he⟩ ⟨rfl, ex⟩
      obtain rfl : x = .int i := by rw [ex]; exact congrArg V.int (Int.zero_add _)
      refine ⟨.ref p, rfl, .int i, rfl, p, _, i, _, rfl, rfl, s3.seq (.inl (.inl hp)), atI_iv (by rw [lensV_len]; exact hi), .ref p', rfl, .int i, rfl, p', _, i, _, rfl, rfl, .inl (.inl hp'), atI_iv (by rw [lensV_len]; exact hi), rfl, _, rfl, ?_⟩
      rw [g_lensV b hi, g_lensV b' hi]
      by_cases h0 : V.int (b.cnt i).sum = V.int (b'.cnt i).sum
      · rw [decide_eq_true h0]
        refine iteF ⟨_, rfl, rfl, fun m hm => ?_⟩
        by_cases em : m = i
        · subst em; exact V.int.inj h0
        · exact he m (by omega)
      · rw [decide_eq_false h0]
        refine iteT ⟨.int i, rfl, sz_le (by show 2 ≤ 1000000; decide), fun t nt => ?_⟩
        exact q1 _ t i (s03.trans (same_upd nt)) hi (fun z => h0 (by rw [z])) he upd_same
    · rintro σ H4 ⟨y7, rfl, rfl, he⟩
      refine ⟨.ref a, rfl, .ref a', rfl, a, a', b, b', rfl, s03.book hb, s03.book hb', ok, ok', fun c T H5 pc s5 npc hpc => ?_⟩
      refine ⟨sz_le (by show 2 ≤ 1000000; decide), fun t nt => ?_⟩
      refine q2 _ t pc c ((s03.trans s5).trans (same_upd nt)) T he ?_ upd_same
      rw [upd_ne (ne_of_none hpc nt)]
      exact hpc

/-! ### lengths_alike -/
structure CLengths (P : Program) (w : World) (K : PySem.W.Frag) (mg : Str → Option Value) (base : Heap) : Prop where
  all_ones : Cal P w K mg base "all_ones" ["book"] (spAllOnes K) 2
  weights_alike : Cal P w K mg base "weights_alike" ["one", "weights", "other", "others"] (spWeightsAlike K) 7
abbrev s_lengths_alike : Stmt := topS 45
theorem sc_lengths_alike : FnScope ["one", "other"] ["one", "other"] (defScope s_lengths_alike) := ⟨rfl, rfl, rfl, by decide +kernel, rfl, by decide +kernel, by decide +kernel⟩
def spLengthsAlike (K : PySem.W.Frag) : Sp := fun vs H Q _ => ∃ (a a' : Addr) (b b' : Bk), vs = [.ref a, .ref a'] ∧ BookAt K H a b ∧ BookAt K H a' b' ∧ BkOK b ∧ BkOK b' ∧ RetAlike Q H b b'
theorem ok_lengths_alike (F : Fun K "lengths_alike" "lengths_alike" s_lengths_alike f fd) (C : CLengths P w K mg base) : FnOk P w K mg base CX0 8 f fd ["one", "other"] (spLengthsAlike K) := by
  refine F.ok sc_lengths_alike (fun vs H Q E h => ?_) (fun cdv A outer s H vs Q E hr h => ?_)
  · obtain ⟨a, a', b, b', rfl, _⟩ := h
    rfl
  · obtain ⟨a, a', b, b', rfl, hb, hb', ok, ok', q1, q2⟩ := h
    have k5 := ok.k
    have k5' := ok'.k
    refine ⟨_, (pss_one (ps_ret (pe_cal C.weights_alike hr (by decide) (pa_cons (pv 0) (pa_cons (pe_cal C.all_ones hr (by decide) (pa_cons (pv 0) pa_nil)) (pa_cons (pv 1) (pa_cons (pe_cal C.all_ones hr (by decide) (pa_cons (pv 1) pa_nil)) pa_nil))))))), ?_⟩
    refine ⟨.ref a, rfl, .ref a, rfl, a, b, rfl, hb, by omega, fun H1 u s1 nu hu => ?_⟩
    refine ⟨.ref a', rfl, .ref a', rfl, a', b', rfl, s1.book hb', by omega, fun H2 u' s2 nu' hu' => ?_⟩
    have s02 := s1.trans s2
    exact ⟨a, a', u, u', b, b', rfl, s02.book hb, s02.book hb', ok, ok', .inl (.inl (s2 _ _ hu)), .inl (.inl hu'), fun H3 t n s3 => q1 H3 t n (s02.trans s3), fun H3 t p c s3 => q2 H3 t p c (s02.trans s3)⟩
end
end LG

/-! ## W13 -/
set_option maxRecDepth 100000
set_option maxHeartbeats 4000000
namespace LG
open PySem PySem.Spec PyProof.Rows L2

theorem str_ne {x y : Str} (h : x ≠ y) : decide (V.str x = V.str y) = false := decide_eq_false fun z => h (V.str.inj z)
theorem BkOK.sum_bits {b : Bk} (h : BkOK b) (n : Nat) (hn : n ≤ 1000) : ((b.cnt n).sum).natAbs < 2 ^ 8000 := by
  have h1 := h.total n
  have e : (b.cnt n).sum = sm b.k (fun j => g (b.cnt n) j) := by rw [sum_sm, b.cnt_len]
  have h0 : 0 ≤ (b.cnt n).sum := by rw [e]; exact sm_nonneg fun i _ => b.cnt_nonneg n i
  rw [← e] at h1
  have h3 := six_pow n
  have h4 : (((b.cnt n).sum).natAbs : Int) < ((2 ^ (3 * n + 3) : Nat) : Int) := by
    rw [Int.natCast_pow]
    have : ((2 : Nat) : Int) = 2 := rfl
    rw [this]
    omega
  exact mono_pow (Int.ofNat_lt.mp h4) (by omega)
theorem TieOK.bits {v : Nat → Nat → Int} {w : Nat} {c : List Int} (T : TieOK v w c) : Bits 8000 c := fun i => mono_pow (T.sz i) (by decide)
theorem BookAt.len {K : PySem.W.Frag} {H : Hp} {a : Addr} {b : Bk} (h : BookAt K H a b) : ∃ t xs, SqT K H a [.str (sOf b.first), .ref t] ∧ SqT K H t xs ∧ xs.length = b.k := by
  obtain ⟨t, rs, h1, h2, h3, h4⟩ := h
  exact ⟨t, _, h1, h2, by rw [List.length_map, h3]⟩
theorem TieOK.goes1 {b b' : Bk} {c : List Int} (T : TieOK (bothB b b') (b.k + b'.k) c) : Goes c fun n => (b.cnt n).sum := by
  have T' : TieOK (both b.rates b.start b'.rates b'.start) (b.start.length + b'.start.length) c := by rw [b.start_len, b'.start_len]; exact T
  exact lens_left T'
theorem TieOK.goes2 {b b' : Bk} {c : List Int} (T : TieOK (bothB b b') (b.k + b'.k) c) : Goes c fun n => (b'.cnt n).sum := by
  have T' : TieOK (both b.rates b.start b'.rates b'.start) (b.start.length + b'.start.length) c := by rw [b.start_len, b'.start_len]; exact T
  exact lens_right T'

section
variable {P : Program} {w : World} {K : PySem.W.Frag} {mg : Str → Option Value} {base : Heap} {f : Addr} {fd : FuncData}

/-! ### _law_kept -/
structure CKept (P : Program) (w : World) (K : PySem.W.Frag) (mg : Str → Option Value) (base : Heap) : Prop where
  length_at : Cal P w K mg base "length_at" ["book", "age", "number"] (spLengthAt K) 4
  length : Cal P w K mg base "length" ["book", "age"] (spLength K) 4
  unwound : Cal P w K mg base "unwound" ["c", "starts", "age", "number"] (spUnwound K) 3
abbrev s__law_kept : Stmt := topS 58
theorem sc__law_kept : FnScope ["_law_book_here", "_law_second", "_law_c", "_law_age", "_law_number", "_law_far", "_law_one", "_law_begins", "_law_at"] ["_law_book_here", "_law_second", "_law_c", "_law_age", "_law_number"] (defScope s__law_kept) := ⟨rfl, rfl, rfl, by decide +kernel, rfl, by decide +kernel, by decide +kernel⟩
def spKept (K : PySem.W.Frag) : Sp := fun vs H Q _ => ∃ (a a' pc : Addr) (b b' : Bk) (c : List Int) (n : Nat) (N : Int), vs = [.ref a, .ref a', .ref pc, .int n, .int N] ∧ BookAt K H a b ∧ BookAt K H a' b' ∧ BkOK b ∧ BkOK b' ∧
  TieOK (bothB b b') (b.k + b'.k) c ∧ (∀ m, m < b.k + b'.k → (b.cnt m).sum = (b'.cnt m).sum) ∧ SqL K H pc (iv c) ∧ (n : Int) < 10 ^ 60 ∧ 1 ≤ N ∧ N < 10 ^ 30 ∧ ∀ H', Same H H' → Q (.bl true) H'
theorem ok_law_kept (F : Fun K "_law_kept" "_law_kept" s__law_kept f fd) (B : Bi mg) (C : CKept P w K mg base) : FnOk P w K mg base CX0 5 f fd ["_law_book_here", "_law_second", "_law_c", "_law_age", "_law_number"] (spKept K) := by
  refine F.ok sc__law_kept (fun vs H Q E h => ?_) (fun cdv A outer s H vs Q E hr h => ?_)
  · obtain ⟨a, a', pc, b, b', c, n, N, rfl, _⟩ := h
    rfl
  · obtain ⟨a, a', pc, b, b', c, n, N, rfl, hb, hb', ok, ok', T, he, hc, hn, h1, h2, q⟩ := h
    have k5 := ok.k
    have k5' := ok'.k
    have lc := T.len
    have all := Goes.alike T.goes1 T.goes2 lc he
    refine ⟨_, (pss_cons (ps_set (i := 5) sc__law_kept.nd rfl (.inl rfl) (pe_cal C.length_at hr (by decide) (pa_cons (pv 0) (pa_cons (pv 3) (pa_cons (pv 4) pa_nil)))))
      (pss_cons (ps_if (pt_cmpR op_ne (pv 5) (pe_cal C.length_at hr (by decide) (pa_cons (pv 1) (pa_cons (pv 3) (pa_cons (pv 4) pa_nil)))) (nomark _))
        (pss_one (ps_ret pe_bl))
        pss_nil)
      (pss_cons (ps_for PassesOwn.never rfl (pi_list (pe_lst (pa_cons (pv 0) (pa_cons (pv 1) pa_nil)))) (pg_name (i := 6) sc__law_kept.nd rfl (.inr rfl))
        (pss_cons (ps_setLc (i := 7) (own := [("_law_at", 8)]) (g := _) (tt := tYes) rfl sc__law_kept.nd rfl rfl (sw_true rfl rfl rfl (by decide +kernel)) (pi_range1 rfl B.range (pa_cons (pe_callB (r := rLenSeq K) call_len_seq (by rfl) B.len (by decide +kernel) (pa_cons (pv 2) pa_nil)) pa_nil)) (blkOk_by (N := ["_law_book_here", "_law_second", "_law_c", "_law_age", "_law_number", "_law_far", "_law_one", "_law_begins", "_law_at"]) (sc := defScope s__law_kept) (by decide +kernel)) (fun _ _ _ _ _ => (pg_name (i := 8) sc__law_kept.nd rfl (.inl rfl))) (fun _ _ _ _ _ => pts_nil) (fun _ _ _ _ _ => (pe_cal C.length hr (by decide) (pa_cons (pv 6) (pa_cons (pv 8) pa_nil)))))
        (pss_one (ps_if (pt_cmpR op_ne (pe_cal C.unwound hr (by decide) (pa_cons (pe_callTy call_list_of (by rfl) B.list (by decide +kernel) (pa_cons (pv 2) pa_nil)) (pa_cons (pv 7) (pa_cons (pv 3) (pa_cons (pv 4) pa_nil))))) (pv 5) (nomark _))
          (pss_one (ps_ret pe_bl))
          pss_nil))))
      (pss_one (ps_ret pe_bl))))), ?_⟩
    refine ⟨.ref a, rfl, .int n, rfl, .int N, rfl, a, b, n, N, rfl, hb, ok, hn, h1, h2, fun H1 s1 => ?_⟩
    refine ⟨.int ((b.cnt n).sum % N), rfl, .ref a', rfl, .int n, rfl, .int N, rfl, a', b', n, N, rfl, s1.book hb', ok', hn, h1, h2, fun H2 s2 => ⟨rfl, _, rfl, ?_⟩⟩
    have s02 := s1.trans s2
    rw [← all n, decide_eq_true rfl]
    refine iteF ?_
    refine ⟨.ref a, rfl, .ref a', rfl, sz_le (by show 2 ≤ 1000000; decide), fun L nL => ⟨L, rfl, ⟨_, .inl (.inl upd_same)⟩, ?_⟩⟩
    have sL := same_upd (o := .lst [.ref a, .ref a']) nL
    have s03 := s02.trans sL
    -- one turn, for either book
    refine for_it (walk_list (xs := [.ref a, .ref a'])) (fun i σ H' => ∃ y6 y7 y8, σ = [some (.ref a), some (.ref a'), some (.ref pc), some (.int n), some (.int N), some (.int ((b.cnt n).sum % N)), y6, y7, y8] ∧ Same H H' ∧ SqL K H' L [.ref a, .ref a'])
      ⟨_, _, _, rfl, s03, .inl (.inl upd_same)⟩ (fun i σ H' _ h => by obtain ⟨_, _, _, _, _, h⟩ := h; exact h) ?_ ?_
    · rintro i x σ H4 H5 hi ⟨y6, y7, y8, rfl, s4, hL⟩ ⟨rfl, hx⟩
      have pick : ∃ (z : Addr) (bk : Bk), x = .ref z ∧ BookAt K H z bk ∧ BkOK bk ∧ (∀ m, (bk.cnt m).sum = (b.cnt m).sum) := by
        rcases i with _ | _ | i
        · obtain rfl : V.ref a = x := Option.some.inj hx
          exact ⟨a, b, rfl, hb, ok, fun _ => rfl⟩
        · obtain rfl : V.ref a' = x := Option.some.inj hx
          exact ⟨a', b', rfl, hb', ok', fun m => (all m).symm⟩
        · simp at hx
      obtain ⟨z, bk, rfl, hz, okz, ez⟩ := pick
      refine ⟨.ref pc, rfl, pc, _, rfl, .inl (s4.seq hc), _, rfl, by rw [iv_len]; omega, by rw [iv_len]; omega, fun D nD => ?_⟩
      rw [iv_len, Int.toNat_natCast]
      refine lc_acc (walk_range (lo := 0) (n := c.length)) nD (by omega) (fun k y _ => y = .int (b.cnt k).sum) (fun _ _ _ _ h _ => h) (fun _ _ => trivial)
        (fun k x H6 H7 hk s6 hD hy R' N' qq => ?_) (fun H6 ys s6 hD hl1 hacc => ?_)
      · obtain ⟨rfl, ex⟩ := hy
        obtain rfl : x = .int k := by rw [ex]; exact congrArg V.int (Int.zero_add _)
        exact ⟨rfl, yes_ok ⟨.ref z, rfl, .int k, rfl, z, bk, k, rfl, (s4.trans s6).book hz, okz, by omega, fun H8 s8 => qq _ _ s8 (congrArg V.int (ez k))⟩⟩
      have em : ys = iv (lensV b c.length) := iv_of hl1 hacc (lensV_len _ _) fun k hk => g_lensV b hk
      rw [em] at hD
      have s06 := s4.trans s6
      refine ⟨.ref pc, rfl, pc, _, rfl, .inl (s06.seq hc), fun l nl => ?_⟩
      have sl := same_upd (o := .lst (iv c)) nl
      refine ⟨.ref D, rfl, .int n, rfl, .int N, rfl, l, D, c, lensV b c.length, n, N, fun m => (b.cnt m).sum, rfl, .inl (.inl upd_same), sl.seq (.inl (.inl hD)), lensV_len _ _, by omega, T.bits, fun i => ?_, T.goes1, fun i hi => g_lensV b hi, hn, h1, h2, fun H7 s7 => ?_⟩
      · by_cases hi : i < c.length
        · rw [g_lensV b hi]; exact ok.sum_bits i (by omega)
        · rw [g_ge (by rw [lensV_len]; omega)]; exact Nat.two_pow_pos _
      · refine ⟨.int ((b.cnt n).sum % N), rfl, rfl, _, rfl, ?_⟩
        rw [decide_eq_true rfl]
        have s9 := (s6.trans sl).trans s7
        exact iteF ⟨_, _, _, rfl, s4.trans s9, s9.seq hL⟩
    · rintro σ H4 ⟨y6, y7, y8, rfl, s4, hL⟩
      exact q H4 s4

/-! ### _law_lengths_hold -/
structure CHold (P : Program) (w : World) (K : PySem.W.Frag) (mg : Str → Option Value) (base : Heap) : Prop where
  length : Cal P w K mg base "length" ["book", "age"] (spLength K) 4
  _law_kept : Cal P w K mg base "_law_kept" ["_law_book_here", "_law_second", "_law_c", "_law_age", "_law_number"] (spKept K) 5
abbrev s__law_lengths_hold : Stmt := topS 60
theorem sc__law_lengths_hold : FnScope ["_law_book_here", "_law_second", "_law_told", "_law_near_age", "_law_age", "_law_number", "_law_many", "_law_at"] ["_law_book_here", "_law_second", "_law_told", "_law_near_age", "_law_age", "_law_number"] (defScope s__law_lengths_hold) := ⟨rfl, rfl, rfl, by decide +kernel, rfl, by decide +kernel, by decide +kernel⟩
/-- what lengths_alike tells -/
def Told (K : PySem.W.Frag) (H : Hp) (t : Addr) (b b' : Bk) : Prop :=
  (∃ n : Nat, n < b.k + b'.k ∧ (b.cnt n).sum ≠ (b'.cnt n).sum ∧ (∀ m, m < n → (b.cnt m).sum = (b'.cnt m).sum) ∧ SqT K H t [.str "part", .int n]) ∨
  ∃ (p : Addr) (c : List Int), TieOK (bothB b b') (b.k + b'.k) c ∧ (∀ m, m < b.k + b'.k → (b.cnt m).sum = (b'.cnt m).sum) ∧ SqL K H p (iv c) ∧ SqT K H t [.str "alike", .ref p]
def spHold (K : PySem.W.Frag) : Sp := fun vs H Q _ => ∃ (a a' t : Addr) (b b' : Bk) (u n : Nat) (N : Int), vs = [.ref a, .ref a', .ref t, .int u, .int n, .int N] ∧ BookAt K H a b ∧ BookAt K H a' b' ∧ BkOK b ∧ BkOK b' ∧
  Told K H t b b' ∧ u ≤ 300 ∧ (n : Int) < 10 ^ 60 ∧ 1 ≤ N ∧ N < 10 ^ 30 ∧ ∀ H', Same H H' → Q (.bl true) H'
theorem ok_law_lengths_hold (F : Fun K "_law_lengths_hold" "_law_lengths_hold" s__law_lengths_hold f fd) (B : Bi mg) (C : CHold P w K mg base) : FnOk P w K mg base CX0 6 f fd ["_law_book_here", "_law_second", "_law_told", "_law_near_age", "_law_age", "_law_number"] (spHold K) := by
  refine F.ok sc__law_lengths_hold (fun vs H Q E h => ?_) (fun cdv A outer s H vs Q E hr h => ?_)
  · obtain ⟨a, a', t, b, b', u, n, N, rfl, _⟩ := h
    rfl
  · obtain ⟨a, a', t, b, b', u, n, N, rfl, hb, hb', ok, ok', ht, hu, hn, h1, h2, q⟩ := h
    have k5 := ok.k
    have k5' := ok'.k
    obtain ⟨t1, xs1, x1, x2, x3⟩ := hb.len
    obtain ⟨t2, xs2, y1, y2, y3⟩ := hb'.len
    have ez : ((xs1.length : Nat) : Int) + ((xs2.length : Nat) : Int) = ((b.k + b'.k : Nat) : Int) := by omega
    refine ⟨_, (pss_cons (ps_set (i := 6) sc__law_lengths_hold.nd rfl (.inl rfl) (pe_op op_add (pe_callB (r := rLenSeq K) call_len_seq (by rfl) B.len (by decide +kernel) (pa_cons (pe_ix (r := rIxT K) ix_tup (pv 0) pe_int (fun _ _ => rfl)) pa_nil)) (pe_callB (r := rLenSeq K) call_len_seq (by rfl) B.len (by decide +kernel) (pa_cons (pe_ix (r := rIxT K) ix_tup (pv 1) pe_int (fun _ _ => rfl)) pa_nil))))
      (pss_cons (ps_if (pt_cmpR op_eq (pe_ix (r := rIxT K) ix_tup (pv 2) pe_int (fun _ _ => rfl)) pe_str (nomark _))
        (pss_cons (ps_set (i := 6) sc__law_lengths_hold.nd rfl (.inl rfl) (pe_ix (r := rIxT K) ix_tup (pv 2) pe_int (fun _ _ => rfl)))
        (pss_one (ps_if (pt_cmpR op_eq (pe_cal C.length hr (by decide) (pa_cons (pv 0) (pa_cons (pv 6) pa_nil))) (pe_cal C.length hr (by decide) (pa_cons (pv 1) (pa_cons (pv 6) pa_nil))) (nomark _))
          (pss_one (ps_ret pe_bl))
          pss_nil)))
        pss_nil)
      (pss_cons (ps_for PassesOwn.never rfl (pi_range1 rfl B.range (pa_cons (pv 6) pa_nil)) (pg_name (i := 7) sc__law_lengths_hold.nd rfl (.inl rfl))
        (pss_one (ps_if (pt_cmpR op_ne (pe_cal C.length hr (by decide) (pa_cons (pv 0) (pa_cons (pv 7) pa_nil))) (pe_cal C.length hr (by decide) (pa_cons (pv 1) (pa_cons (pv 7) pa_nil))) (nomark _))
          (pss_one (ps_ret pe_bl))
          pss_nil)))
      (pss_cons (ps_if (pt_cmpR op_eq (pe_ix (r := rIxT K) ix_tup (pv 2) pe_int (fun _ _ => rfl)) pe_str (nomark _))
        (pss_one (ps_ret pe_bl))
        pss_nil)
      (pss_one (ps_ret (pe_and (pe_cmpR op_eq (pe_cal C.length hr (by decide) (pa_cons (pv 0) (pa_cons (pv 3) pa_nil))) (pe_cal C.length hr (by decide) (pa_cons (pv 1) (pa_cons (pv 3) pa_nil))) (nomark _)) (pe_one (pe_cal C._law_kept hr (by decide) (pa_cons (pv 0) (pa_cons (pv 1) (pa_cons (pe_ix (r := rIxT K) ix_tup (pv 2) pe_int (fun _ _ => rfl)) (pa_cons (pv 4) (pa_cons (pv 5) pa_nil)))))))))))))), ?_⟩
    refine ⟨.ref a, rfl, a, _, 0 + 1, .ref t1, rfl, rfl, x1, atI_nat (j := 1) rfl, t1, _, rfl, .inr x2, .ref a', rfl, a', _, 0 + 1, .ref t2, rfl, rfl, y1, atI_nat (j := 1) rfl, t2, _, rfl, .inr y2, _, _, rfl, rfl, ?_⟩
    rcases ht with ⟨m, hm, hne, heq, htt⟩ | ⟨p, c, T, heq, hp, htt⟩
    · refine ⟨.ref t, rfl, t, _, 0, .str "part", rfl, rfl, htt, atI_nat (j := 0) rfl, rfl, _, rfl, ?_⟩
      rw [decide_eq_true rfl]
      refine iteT ?_
      refine ⟨.ref t, rfl, t, _, 1, .int m, rfl, rfl, htt, atI_nat (j := 1) rfl, ?_⟩
      refine ⟨.ref a, rfl, .int m, rfl, a, b, m, rfl, hb, ok, by omega, fun H1 s1 => ?_⟩
      refine ⟨.ref a', rfl, .int m, rfl, a', b', m, rfl, s1.book hb', ok', by omega, fun H2 s2 => ⟨rfl, _, rfl, ?_⟩⟩
      rw [decide_eq_false (fun z => hne (V.int.inj z))]
      refine iteF ?_
      have s02 := s1.trans s2
      refine ⟨.int m, rfl, (m : Int), rfl, by omega, by omega, ?_⟩
      rw [Int.toNat_natCast]
      refine for_it (walk_range (lo := 0) (n := m)) (fun i σ H' => ∃ y7, σ = [some (.ref a), some (.ref a'), some (.ref t), some (.int u), some (.int n), some (.int N), some (.int m), y7] ∧ Same H H') ⟨_, rfl, s02⟩ (fun _ _ _ _ _ => trivial) ?_ ?_
      · rintro i x σ H4 H5 hi ⟨y7, rfl, s4⟩ ⟨rfl, ex⟩
        obtain rfl : x = .int i := by rw [ex]; exact congrArg V.int (Int.zero_add _)
        refine ⟨.ref a, rfl, .int i, rfl, a, b, i, rfl, s4.book hb, ok, by omega, fun H6 s6 => ?_⟩
        refine ⟨.ref a', rfl, .int i, rfl, a', b', i, rfl, (s4.trans s6).book hb', ok', by omega, fun H7 s7 => ⟨rfl, _, rfl, ?_⟩⟩
        rw [heq i hi, decide_eq_true rfl]
        exact iteF ⟨_, rfl, (s4.trans s6).trans s7⟩
      · rintro σ H4 ⟨y7, rfl, s4⟩
        refine ⟨.ref t, rfl, t, _, 0, .str "part", rfl, rfl, s4.seqT htt, atI_nat (j := 0) rfl, rfl, _, rfl, ?_⟩
        rw [decide_eq_true rfl]
        exact iteT (q H4 s4)
    · have ne : decide (V.str "alike" = V.str "part") = false := str_ne (by decide +kernel)
      have all := Goes.alike T.goes1 T.goes2 T.len heq
      refine ⟨.ref t, rfl, t, _, 0, .str "alike", rfl, rfl, htt, atI_nat (j := 0) rfl, rfl, _, rfl, ?_⟩
      rw [ne]
      refine iteF ?_
      refine ⟨_, rfl, _, rfl, by omega, by omega, ?_⟩
      rw [ez, Int.toNat_natCast]
      refine for_it (walk_range (lo := 0) (n := b.k + b'.k)) (fun i σ H' => ∃ y6 y7, σ = [some (.ref a), some (.ref a'), some (.ref t), some (.int u), some (.int n), some (.int N), y6, y7] ∧ Same H H') ⟨_, _, rfl, Same.refl _⟩ (fun _ _ _ _ _ => trivial) ?_ ?_
      · rintro i x σ H4 H5 hi ⟨y6, y7, rfl, s4⟩ ⟨rfl, ex⟩
        obtain rfl : x = .int i := by rw [ex]; exact congrArg V.int (Int.zero_add _)
        refine ⟨.ref a, rfl, .int i, rfl, a, b, i, rfl, s4.book hb, ok, by omega, fun H6 s6 => ?_⟩
        refine ⟨.ref a', rfl, .int i, rfl, a', b', i, rfl, (s4.trans s6).book hb', ok', by omega, fun H7 s7 => ⟨rfl, _, rfl, ?_⟩⟩
        rw [heq i hi, decide_eq_true rfl]
        exact iteF ⟨_, _, rfl, (s4.trans s6).trans s7⟩
      · rintro σ H4 ⟨y6, y7, rfl, s4⟩
        refine ⟨.ref t, rfl, t, _, 0, .str "alike", rfl, rfl, s4.seqT htt, atI_nat (j := 0) rfl, rfl, _, rfl, ?_⟩
        rw [ne]
        refine iteF ?_
        refine ⟨.ref a, rfl, .int u, rfl, a, b, u, rfl, s4.book hb, ok, hu, fun H6 s6 => ?_⟩
        have s06 := s4.trans s6
        refine ⟨.ref a', rfl, .int u, rfl, a', b', u, rfl, s06.book hb', ok', hu, fun H7 s7 => ⟨rfl, true, ?_, iteT ?_⟩⟩
        · rw [all u, decide_eq_true rfl]
        · have s07 := s06.trans s7
          refine ⟨.ref a, rfl, .ref a', rfl, .ref t, rfl, t, _, 1, .ref p, rfl, rfl, s07.seqT htt, atI_nat (j := 1) rfl, .int n, rfl, .int N, rfl, a, a', p, b, b', c, n, N, rfl, s07.book hb, s07.book hb', ok, ok', T, heq, s07.seq hp, hn, h1, h2, fun H8 s8 => q H8 (s07.trans s8)⟩
end
end LG

/-! ## W14 -/
set_option maxRecDepth 100000
set_option maxHeartbeats 4000000
namespace LG
open PySem PySem.Spec PyProof.Rows L2

/-! ### a letter's amount -/
def amtAt (l : List Nat) (xs : List Int) (c : Nat) : Int := if c ∈ l then g xs (l.idxOf c) else 0
theorem idx_of {l : List Nat} (nd : l.Nodup) {j c : Nat} (h : l[j]? = some c) : l.idxOf c = j := by
  obtain ⟨hj, e⟩ := List.getElem?_eq_some_iff.mp h
  rw [← e]
  exact nd.idxOf_getElem j hj
theorem amt_in {l : List Nat} (nd : l.Nodup) (xs : List Int) {j c : Nat} (h : l[j]? = some c) : amtAt l xs c = g xs j := by
  unfold amtAt
  rw [if_pos (List.mem_of_getElem? h), idx_of nd h]
theorem amt_out {l : List Nat} (xs : List Int) {c : Nat} (h : c ∉ l) : amtAt l xs c = 0 := by
  unfold amtAt
  rw [if_neg h]
theorem find_sign (l : List Nat) (c : Nat) : (Txt.find (sOf l) (sOf [c]) = -1 ∧ c ∉ l) ∨ ∃ i : Nat, Txt.find (sOf l) (sOf [c]) = (i : Int) ∧ l[i]? = some c := by
  have hy : TL.tl (sOf [c]) ≠ [] := by rw [tl_sOf]; simp
  have at_c : ∀ i, StrLaws.At (sOf l) (sOf [c]) (sOf l).length i ↔ l[i]? = some c := fun i => by
    rw [TL.at_iff hy i, tl_sOf, tl_sOf]
    unfold TL.pre
    rw [beq_iff_eq]
    show (l.drop i).take 1 = [c] ↔ _
    rw [List.take_one, List.head?_drop]
    cases l[i]? with
    | none => simp
    | some d => simp
  unfold Txt.find
  rcases StrLaws.occ_head (sOf l) (sOf [c]) 1 (Nat.le_refl 1) with ⟨e, hn⟩ | ⟨i, r, e, hi, _⟩
  · rw [e]
    refine .inl ⟨rfl, fun hm => ?_⟩
    obtain ⟨i, hi⟩ := List.getElem?_of_mem hm
    exact hn i ((at_c i).mpr hi)
  · rw [e]
    exact .inr ⟨i, rfl, (at_c i).mp hi⟩

/-- a dict of the letters' amounts that aren't nought -/
def entA (l : List Nat) (xs : List Int) (j : Nat) : Key × V := (Sum.inr (sOf [l.getD j 0]), .int (g xs j))
def amtD (l : List Nat) (xs : List Int) (i : Nat) : List (Key × V) := ((List.range i).filter fun j => g xs j != 0).map (entA l xs)
theorem amtD_succ (l : List Nat) (xs : List Int) (i : Nat) : amtD l xs (i + 1) = amtD l xs i ++ if g xs i = 0 then [] else [entA l xs i] := by
  unfold amtD
  rw [List.range_succ, List.filter_append, List.map_append]
  congr 1
  by_cases h : g xs i = 0
  · rw [if_pos h]; simp [h]
  · rw [if_neg h]; simp [h]
theorem sOf_inj {a b : List Nat} (h : sOf a = sOf b) : a = b := by
  have := congrArg TL.tl h
  rwa [tl_sOf, tl_sOf] at this
theorem mem_amtD {l : List Nat} {xs : List Int} {i : Nat} {p : Key × V} : p ∈ amtD l xs i ↔ ∃ j, j < i ∧ g xs j ≠ 0 ∧ p = entA l xs j := by
  unfold amtD
  rw [List.mem_map]
  constructor
  · rintro ⟨j, hj, rfl⟩
    rw [List.mem_filter, List.mem_range] at hj
    exact ⟨j, hj.1, by simpa using hj.2, rfl⟩
  · rintro ⟨j, h1, h2, rfl⟩
    exact ⟨j, by rw [List.mem_filter, List.mem_range]; exact ⟨h1, by simpa using h2⟩, rfl⟩
theorem key_inj {l : List Nat} (nd : l.Nodup) {xs : List Int} {i j : Nat} (hi : i < l.length) (hj : j < l.length) (h : (entA l xs i).1 = (entA l xs j).1) : i = j := by
  have h1 : sOf [l.getD i 0] = sOf [l.getD j 0] := Sum.inr.inj h
  have h2 := (List.cons.inj (sOf_inj h1)).1
  rw [List.getD_eq_getElem?_getD, List.getD_eq_getElem?_getD, List.getElem?_eq_getElem hi, List.getElem?_eq_getElem hj] at h2
  have h3 : l[i] = l[j] := h2
  have a1 := idx_of nd (List.getElem?_eq_getElem hi)
  have a2 := idx_of nd (List.getElem?_eq_getElem hj)
  rw [h3] at a1
  omega
theorem valV_mem {kvs : List (Key × V)} {k : Key} {v : V} (h : valV kvs k = some v) : (k, v) ∈ kvs := by
  unfold valV at h
  cases e : kvs.find? (fun kv => decide (kv.1 = k)) with
  | none => rw [e] at h; cases h
  | some p =>
    rw [e] at h
    have h1 := List.mem_of_find?_eq_some e
    have h2 := List.find?_some e
    have h3 : p.1 = k := of_decide_eq_true h2
    have h4 : p.2 = v := Option.some.inj h
    rw [← h3, ← h4]
    exact h1
theorem amtD_new {l : List Nat} (nd : l.Nodup) (xs : List Int) {i : Nat} (hi : i < l.length) : valV (amtD l xs i) (entA l xs i).1 = none := by
  cases e : valV (amtD l xs i) (entA l xs i).1 with
  | none => rfl
  | some v =>
    obtain ⟨j, h1, _, h3⟩ := mem_amtD.mp (valV_mem e)
    have h4 := congrArg (fun p : Key × V => p.1) h3
    have := key_inj nd (xs := xs) hi (by omega) h4
    omega
theorem amtD_nodup {l : List Nat} (nd : l.Nodup) (xs : List Int) : ∀ i, i ≤ l.length → ((amtD l xs i).map (·.1)).Nodup
  | 0, _ => by unfold amtD; simp
  | i + 1, h => by
    rw [amtD_succ]
    by_cases h0 : g xs i = 0
    · rw [if_pos h0, List.append_nil]; exact amtD_nodup nd xs i (by omega)
    · rw [if_neg h0]
      have := nd_putK (entA l xs i).2 (amtD_nodup nd xs i (by omega)) (amtD_new nd xs (by omega))
      rwa [putK_new _ (amtD_new nd xs (by omega))] at this
theorem amtD_len (l : List Nat) (xs : List Int) (i : Nat) : (amtD l xs i).length ≤ i := by
  unfold amtD
  rw [List.length_map]
  exact Nat.le_trans (List.length_filter_le _ _) (by rw [List.length_range]; exact Nat.le_refl _)
/-- dicts of like amounts are equal -/
theorem amtD_same {l l' : List Nat} (nd : l.Nodup) (nd' : l'.Nodup) {xs xs' : List Int} (h : ∀ c, amtAt l xs c = amtAt l' xs' c) :
    (amtD l xs l.length).length = (amtD l' xs' l'.length).length ∧ ∀ p ∈ amtD l xs l.length, valV (amtD l' xs' l'.length) p.1 = some p.2 ∧ flatB p.2 = true := by
  have half : ∀ {l l' : List Nat}, l.Nodup → l'.Nodup → ∀ {xs xs' : List Int}, (∀ c, amtAt l xs c = amtAt l' xs' c) → ∀ p ∈ amtD l xs l.length, p ∈ amtD l' xs' l'.length := by
    intro l l' nd nd' xs xs' h p hp
    obtain ⟨j, h1, h2, rfl⟩ := mem_amtD.mp hp
    have e1 : l[j]? = some (l.getD j 0) := by rw [List.getD_eq_getElem?_getD, List.getElem?_eq_getElem h1]; rfl
    have e2 := amt_in nd xs e1
    have e3 := h (l.getD j 0)
    rw [e2] at e3
    have hm : l.getD j 0 ∈ l' := by
      apply Classical.byContradiction
      intro hn
      rw [amt_out xs' hn] at e3
      exact h2 e3
    obtain ⟨i, hi⟩ := List.getElem?_of_mem hm
    rw [amt_in nd' xs' hi] at e3
    have hil : i < l'.length := (List.getElem?_eq_some_iff.mp hi).1
    refine mem_amtD.mpr ⟨i, hil, by rw [← e3]; exact h2, ?_⟩
    have e4 : l'.getD i 0 = l.getD j 0 := by rw [List.getD_eq_getElem?_getD, hi]; rfl
    unfold entA
    rw [e4, e3]
  have n1 := amtD_nodup nd xs l.length (Nat.le_refl _)
  have n2 := amtD_nodup nd' xs' l'.length (Nat.le_refl _)
  have m1 : (amtD l xs l.length).Nodup := List.Pairwise.of_map (fun p : Key × V => p.1) (fun _ _ hne e => hne (congrArg Prod.fst e)) n1
  have m2 : (amtD l' xs' l'.length).Nodup := List.Pairwise.of_map (fun p : Key × V => p.1) (fun _ _ hne e => hne (congrArg Prod.fst e)) n2
  refine ⟨((List.perm_ext_iff_of_nodup m1 m2).mpr fun p => ⟨half nd nd' h p, half nd' nd (fun c => (h c).symm) p⟩).length_eq, fun p hp => ⟨val_nodup n2 p (half nd nd' h p hp), ?_⟩⟩
  obtain ⟨j, _, _, rfl⟩ := mem_amtD.mp hp
  rfl

section
variable {P : Program} {w : World} {K : PySem.W.Frag} {mg : Str → Option Value} {base : Heap} {f : Addr} {fd : FuncData}

/-! ### amount_of -/
abbrev s_amount_of : Stmt := topS 46
theorem sc_amount_of : FnScope ["book", "amounts", "letter", "at"] ["book", "amounts", "letter"] (defScope s_amount_of) := ⟨rfl, rfl, rfl, by decide +kernel, rfl, by decide +kernel, by decide +kernel⟩
def spAmountOf (K : PySem.W.Frag) : Sp := fun vs H Q _ => ∃ (a am : Addr) (b : Bk) (xs : List Int) (c : Nat), vs = [.ref a, .ref am, .str (sOf [c])] ∧ BookAt K H a b ∧ b.k ≤ 100 ∧ b.sg.Nodup ∧ SqL K H am (iv xs) ∧ xs.length = b.k ∧ ∀ H', Same H H' → Q (.int (amtAt b.sg xs c)) H'
theorem ok_amount_of (F : Fun K "amount_of" "amount_of" s_amount_of f fd) (C : CLetters P w K mg base) : FnOk P w K mg base CX0 2 f fd ["book", "amounts", "letter"] (spAmountOf K) := by
  refine F.ok sc_amount_of (fun vs H Q E h => ?_) (fun cdv A outer s H vs Q E hr h => ?_)
  · obtain ⟨a, am, b, xs, c, rfl, _⟩ := h
    rfl
  · obtain ⟨a, am, b, xs, c, rfl, hb, hk, nd, hA, hl, q⟩ := h
    refine ⟨_, (pss_cons (ps_set (i := 3) sc_amount_of.nd rfl (.inl rfl) (pe_m1 PySem.F.slot_str_find PySem.F.type_str_find mt_find (pe_cal C.letters hr (by decide) (pa_cons (pv 0) pa_nil)) (pv 2)))
      (pss_cons (ps_if (pt_cmpR op_lt (pv 3) pe_int (nomark _))
        (pss_one (ps_ret pe_int))
        pss_nil)
      (pss_one (ps_ret (pe_ix (r := rIxL K) ix_list (pv 1) (pv 3) (fun _ _ => rfl)))))), ?_⟩
    refine ⟨.ref a, rfl, a, b, rfl, hb, hk, fun H1 s1 => ⟨⟨_, rfl⟩, .str (sOf [c]), rfl, _, _, rfl, rfl, ?_⟩⟩
    rcases find_sign b.sg c with ⟨e, hn⟩ | ⟨i, e, hi⟩
    · rw [e]
      refine ⟨.int (-1), rfl, -1, 0, rfl, rfl, _, rfl, ?_⟩
      have neg : decide ((-1 : Int) < 0) = true := by decide
      rw [neg]
      refine iteT ?_
      have := q H1 s1
      rw [amt_out xs hn] at this
      exact this
    · rw [e]
      refine ⟨.int i, rfl, i, 0, rfl, rfl, _, rfl, ?_⟩
      rw [decide_eq_false (by omega)]
      refine iteF ?_
      have hil : i < b.k := by
        have := (List.getElem?_eq_some_iff.mp hi).1
        rwa [List.length_map] at this
      have := q H1 s1
      rw [amt_in nd xs hi] at this
      exact ⟨.ref am, rfl, .int i, rfl, am, _, i, _, rfl, rfl, s1.seq hA, atI_iv (by omega), this⟩

/-! ### _law_amounts -/
structure CAmounts (P : Program) (w : World) (K : PySem.W.Frag) (mg : Str → Option Value) (base : Heap) : Prop where
  counts_at : Cal P w K mg base "counts_at" ["book", "age", "number"] (spCountsAt K) 3
abbrev s__law_amounts : Stmt := topS 59
theorem sc__law_amounts : FnScope ["_law_book_here", "_law_age", "_law_number", "_law_found", "_law_at", "_law_amount"] ["_law_book_here", "_law_age", "_law_number"] (defScope s__law_amounts) := ⟨rfl, rfl, rfl, by decide +kernel, rfl, by decide +kernel, by decide +kernel⟩
def spAmounts (K : PySem.W.Frag) : Sp := fun vs H Q _ => ∃ (a : Addr) (b : Bk) (n : Nat) (N : Int), vs = [.ref a, .int n, .int N] ∧ BookAt K H a b ∧ BkOK b ∧ (n : Int) < 10 ^ 60 ∧ 1 ≤ N ∧ N < 10 ^ 30 ∧
  ∀ (H' : Hp) (d : Addr), Same H H' → H' d = some (.dK (amtD b.sg (md N (b.cnt n)) b.sg.length)) → Q (.ref d) H'
theorem ok_law_amounts (F : Fun K "_law_amounts" "_law_amounts" s__law_amounts f fd) (B : Bi mg) (C : CAmounts P w K mg base) : FnOk P w K mg base CX0 4 f fd ["_law_book_here", "_law_age", "_law_number"] (spAmounts K) := by
  refine F.ok sc__law_amounts (fun vs H Q E h => ?_) (fun cdv A outer s H vs Q E hr h => ?_)
  · obtain ⟨a, b, n, N, rfl, _⟩ := h
    rfl
  · obtain ⟨a, b, n, N, rfl, hb, ok, hn, h1, h2, q⟩ := h
    have k5 := ok.k
    refine ⟨_, (pss_cons (ps_set (i := 3) sc__law_amounts.nd rfl (.inl rfl) pe_dnewK)
      (pss_cons (ps_for PassesOwn.never rfl (pi_enum (by rfl) B.enumerate (pa_cons (pe_cal C.counts_at hr (by decide) (pa_cons (pv 0) (pa_cons (pv 1) (pa_cons (pv 2) pa_nil)))) pa_nil)) (pg_tup rfl (pgs_cons (pg_name (i := 4) sc__law_amounts.nd rfl (.inl rfl)) (pgs_cons (pg_name (i := 5) sc__law_amounts.nd rfl (.inl rfl)) pgs_nil)))
        (pss_one (ps_if (pt_cmpR op_ne (pv 5) pe_int (nomark _))
          (pss_one (ps_dput (hu_of hr) (pv 3) (pe_ix (r := rIxT K) ix_tup (pe_ix (r := rIxT K) ix_tup (pe_ix (r := rIxT K) ix_tup (pv 0) pe_int (fun _ _ => rfl)) (pv 4) (fun _ _ => rfl)) pe_int (fun _ _ => rfl)) (pv 5) rfl))
          pss_nil)))
      (pss_one (ps_ret (pv 3))))), ?_⟩
    refine fun d nd => ?_
    have s0 : Same H (upd H d (.dK [])) := same_upd nd
    refine ⟨.ref a, rfl, .int n, rfl, .int N, rfl, a, b, n, N, rfl, s0.book hb, ok, hn, h1, h2, fun H1 p s1 hp => ?_⟩
    have hd1 : H1 d = some (.dK []) := s1 _ _ upd_same
    have npd : ∀ H' : Hp, SqL K H1 p (iv (md N (b.cnt n))) → SameX d H1 H' → SqL K H' p (iv (md N (b.cnt n))) := by
      intro H' hp sx
      by_cases e : p = d
      · subst e
        rcases hp with (h | ⟨o, h⟩) | ⟨o, its, nn, h1, h2, _⟩
        · rw [hd1] at h; cases h
        · rw [hd1] at h; cases h
        · exact .inr ⟨o, its, nn, h1, h2, by assumption⟩
      · exact sx.seq e hp
    have lx : (md N (b.cnt n)).length = b.k := by rw [md_len, b.cnt_len]
    have ls : b.sg.length = b.k := List.length_map _
    refine ⟨p, _, rfl, hp, ?_⟩
    refine for_it (walk_enum (xs := iv (md N (b.cnt n)))) (fun i σ H' => ∃ y4 y5, σ = [some (.ref a), some (.int n), some (.int N), some (.ref d), y4, y5] ∧ Same H H' ∧ SameX d H1 H' ∧ H' d = some (.dK (amtD b.sg (md N (b.cnt n)) i)))
      ⟨_, _, rfl, s0.trans s1, SameX.refl _ _, hd1⟩ (fun i σ H' _ h => by obtain ⟨_, _, _, _, sx, _⟩ := h; exact npd H' hp sx) ?_ ?_
    · rintro i x σ H2 H3 hi ⟨y4, y5, rfl, s2, sx, hd⟩ ⟨T, u1, u2, rfl, nT, rfl, e1, e2⟩
      obtain ⟨hi2, rfl⟩ := iv_get e2
      obtain rfl : V.int i = u1 := Option.some.inj e1
      have sT : Same H2 (upd H2 T (.tup [.int i, .int (g (md N (b.cnt n)) i)])) := same_upd nT
      have hdT := sT _ _ hd
      refine ⟨T, _, rfl, .inl (.inl upd_same), rfl, _, _, rfl, _, _, rfl, rfl, ?_⟩
      refine ⟨.int (g (md N (b.cnt n)) i), rfl, rfl, _, rfl, ?_⟩
      by_cases h0 : V.int (g (md N (b.cnt n)) i) = V.int 0
      · rw [decide_eq_true h0]
        refine iteF ⟨_, _, rfl, s2.trans sT, sx.trans sT.toX, ?_⟩
        rw [amtD_succ, if_pos (V.int.inj h0), List.append_nil]
        exact hdT
      · rw [decide_eq_false h0]
        refine iteT ?_
        have hib : i < b.k := by omega
        obtain ⟨t, rs, b1, b2, b3, b4⟩ := (s2.trans sT).book hb
        have hir : i < rs.length := by rw [b3]; exact hib
        obtain ⟨qq, c1, c2⟩ := b4 i rs[i] (List.getElem?_eq_getElem hir)
        refine ⟨.int (g (md N (b.cnt n)) i), rfl, .ref d, rfl, .ref a, rfl, a, _, 1, .ref t, rfl, rfl, b1, atI_nat (j := 1) rfl, .int i, rfl, t, _, i, .ref rs[i], rfl, rfl, b2, atI_nat (by rw [List.getElem?_map, List.getElem?_eq_getElem hir]; rfl), rs[i], _, 0, .str (sOf [qq.1]), rfl, rfl, c2, atI_nat (j := 0) rfl, ?_⟩
        refine ⟨d, _, rfl, DPut.k (k := Sum.inr (sOf [qq.1])) hdT (sz_lt (Nat.le_trans (amtD_len _ _ _) (by omega))), ?_⟩
        have ek : (entA b.sg (md N (b.cnt n)) i).1 = Sum.inr (sOf [qq.1]) := by
          unfold entA
          have : b.sg[i]? = some qq.1 := by
            show (b.rules.map (·.1))[i]? = _
            rw [List.getElem?_map, c1]; rfl
          rw [List.getD_eq_getElem?_getD, this]; rfl
        have nw := amtD_new ok.nd (md N (b.cnt n)) (i := i) (by omega)
        rw [ek] at nw
        rw [putK_new _ nw]
        refine ⟨_, _, rfl, ?_, (sx.trans sT.toX).trans sameX_upd, ?_⟩
        · intro b0 o hb0
          rw [upd_ne (ne_of_none hb0 nd)]
          exact sT _ _ (s2 _ _ hb0)
        · rw [upd_same, amtD_succ, if_neg (fun z => h0 (by rw [z])), ← ek]
          rfl
    · rintro σ H2 ⟨y4, y5, rfl, s2, sx, hd⟩
      rw [iv_len, lx, ← ls] at hd
      exact ⟨.ref d, rfl, q H2 d s2 hd⟩
end
end LG

/-! ## W15 -/
set_option maxRecDepth 100000
set_option maxHeartbeats 4000000
namespace LG
open PySem PySem.Spec PyProof.Rows L2

/-- a sign as a value -/
abbrev sg1 (c : Nat) : V := .str (sOf [c])
theorem vals_signs {x : Str} : ∀ (us : List Value) (l : List Nat), us.length = l.length → (∀ (i : Nat) (v : Value), us[i]? = some v → ∃ (c : Nat) (t : Tok), l[i]? = some c ∧ v = Value.str ⟨#[c]⟩ t) → Vals (l.map sg1) us
  | [], [], _, _ => .nil
  | u :: us, c :: l, hl, h => by
    obtain ⟨d, t, h1, h2⟩ := h 0 u rfl
    have e : c = d := Option.some.inj h1
    subst e
    exact .cons ⟨t, h2⟩ (vals_signs (x := x) us l (by simpa using hl) fun i v hv => h (i + 1) v hv)
  | [], _ :: _, hl, _ => by simp at hl
  | _ :: _, [], hl, _ => by simp at hl
theorem call_list_txt {X : Cx} (hc : X.calm = true) : CallR X (.type "list") (fun xs H Q => ∃ l : List Nat, xs = [.str (sOf l)] ∧ l.length ≤ 1000 ∧ ∀ p, H p = none → Q (.ref p) (upd H p (.lst (l.map sg1)))) := by
  intro pins s σ H xs us Q I r h
  obtain ⟨l, rfl, hl, q⟩ := h
  obtain ⟨u, rfl, rx⟩ := vals1 r
  obtain ⟨t, rfl⟩ := rx
  have sz : (sOf l).cps.size = l.length := by unfold sOf; simp
  refine PySem.call_list_str (I.ok.hd hc) (sOf l) t (fun h' tk acc' c' kp e it => ?_) (by rw [sz]; exact sz_le (by omega))
  obtain ⟨i1, i2⟩ := it
  have lu : acc'.toList.length = l.length := by rw [Array.length_toList, i1, sz]
  have rv : Vals (l.map sg1) acc'.toList := vals_signs (x := sOf l) acc'.toList l lu fun i v hv => by
    rw [Array.getElem?_toList] at hv
    obtain ⟨c, t, h1, h2⟩ := i2 i v hv
    refine ⟨c, t, ?_, h2⟩
    have : l.toArray[i]? = some c := h1
    simpa using this
  refine ⟨.ref s.heap.objs.size, _, I.laid (t' := tk) kp (Nat.le_refl _) (show ObjOk X.prog X.w _ h' _ (.lst (l.map sg1)) from ⟨by rw [List.length_map]; exact sz_le (by omega), acc'.toList, c', rv, e⟩), rfl, q _ (I.hok.fresh (Nat.le_refl _))⟩

theorem atI_pick {ms : List V} {v : Int} (h0 : 0 ≤ v) (h1 : v < ms.length) : ∃ m, atI ms v = some m ∧ m ∈ ms ∧ ms[v.toNat]? = some m := by
  have hl : v.toNat < ms.length := by omega
  exact ⟨ms[v.toNat], at_of (j := v.toNat) (by omega) (List.getElem?_eq_getElem hl), List.getElem_mem hl, List.getElem?_eq_getElem hl⟩

/-- the pen -/
def PenAt (H : Hp) (pen : Addr) (n : Nat) : Prop := ∃ z c f : Int, H pen = some (.lst [.int z, .int c, .int f]) ∧ 0 ≤ c ∧ c ≤ n ∧ 0 ≤ f ∧ f < 2147483647
theorem PenAt.keep {H H' : Hp} {pen : Addr} {n : Nat} (h : PenAt H pen n) (s : Same H H') : PenAt H' pen n := by
  obtain ⟨z, c, f, h1, h2⟩ := h
  exact ⟨z, c, f, s _ _ h1, h2⟩
theorem PenAt.other {H H' : Hp} {pen a : Addr} {n : Nat} (h : PenAt H pen n) (s : SameX a H H') (hn : pen ≠ a) : PenAt H' pen n := by
  obtain ⟨z, c, f, h1, h2⟩ := h
  exact ⟨z, c, f, s _ _ hn h1, h2⟩
theorem PenAt.mono {H : Hp} {pen : Addr} {n m : Nat} (h : PenAt H pen n) (hm : n ≤ m) : PenAt H pen m := by
  obtain ⟨z, c, f, h1, h2, h3, h4⟩ := h
  exact ⟨z, c, f, h1, h2, by omega, h4⟩
theorem PenAt.some {H : Hp} {pen : Addr} {n : Nat} (h : PenAt H pen n) : ∃ o, H pen = some o := by
  obtain ⟨z, c, f, h1, _⟩ := h
  exact ⟨_, h1⟩

section
variable {P : Program} {w : World} {K : PySem.W.Frag} {mg : Str → Option Value} {base : Heap} {f : Addr} {fd : FuncData}

/-! ### _law_pen -/
abbrev s__law_pen : Stmt := topS 49
theorem sc__law_pen : FnScope ["_law_script", "_law_k", "_law_fold", "_law_cell", "_law_great_here"] ["_law_script", "_law_k"] (defScope s__law_pen) := ⟨rfl, rfl, rfl, by decide +kernel, rfl, by decide +kernel, by decide +kernel⟩
def spPen (K : PySem.W.Frag) : Sp := fun vs H Q _ => ∃ (sc : Addr) (ns : List Int) (k : Nat), vs = [.ref sc, .int k] ∧ SqL K H sc (iv ns) ∧ ns.length ≤ 63 ∧ k ≤ 1 ∧ ∀ (H' : Hp) (p : Addr), Same H H' → H p = none → PenAt H' p 0 → Q (.ref p) H'
theorem ok_law_pen (F : Fun K "_law_pen" "_law_pen" s__law_pen f fd) (B : Bi mg) : FnOk P w K mg base CX0 1 f fd ["_law_script", "_law_k"] (spPen K) := by
  refine F.ok sc__law_pen (fun vs H Q E h => ?_) (fun cdv A outer s H vs Q E hr h => ?_)
  · obtain ⟨sc, ns, k, rfl, _⟩ := h
    rfl
  · obtain ⟨sc, ns, k, rfl, hS, hl, hk, q⟩ := h
    refine ⟨_, (pss_cons (ps_set (i := 2) sc__law_pen.nd rfl (.inl rfl) (pe_op op_add (pe_op op_mul pe_int (pv 1)) pe_int))
      (pss_cons (ps_for PassesOwn.never rfl (pi_list (pe_slice (r := rSlL K) sl_list (pv 0) po_none (po_some pe_int))) (pg_name (i := 3) sc__law_pen.nd rfl (.inl rfl))
        (pss_one (ps_set (i := 2) sc__law_pen.nd rfl (.inl rfl) (pe_op op_mod (pe_op op_add (pe_op op_mul (pv 2) pe_int) (pv 3)) pe_int))))
      (pss_cons (ps_set (i := 4) sc__law_pen.nd rfl (.inl rfl) pe_int)
      (pss_cons (ps_if (PW.pt (pw_and (pt_cmpR op_gt (pe_callB (r := rLenSeq K) call_len_seq (by rfl) B.len (by decide +kernel) (pa_cons (pv 0) pa_nil)) pe_int (nomark _)) (pw_and1 (pt_cmpR op_ge (pe_ix (r := rIxL K) ix_list (pv 0) (pe_op op_mod (pv 1) (pe_callB (r := rLenSeq K) call_len_seq (by rfl) B.len (by decide +kernel) (pa_cons (pv 0) pa_nil))) (fun _ _ => rfl)) (pe_op op_pow pe_int pe_int) (nomark _)))))
        (pss_one (ps_set (i := 4) sc__law_pen.nd rfl (.inl rfl) (pe_op op_sub (pe_ix (r := rIxL K) ix_list (pv 0) (pe_op op_mod (pv 1) (pe_callB (r := rLenSeq K) call_len_seq (by rfl) B.len (by decide +kernel) (pa_cons (pv 0) pa_nil))) (fun _ _ => rfl)) (pe_op op_pow pe_int pe_int))))
        pss_nil)
      (pss_one (ps_ret (pe_lst (pa_cons (pv 4) (pa_cons pe_int (pa_cons (pv 2) pa_nil)))))))))), ?_⟩
    refine ⟨.int k, rfl, _, _, rfl, rfl, .inl ⟨by decide, by decide⟩, _, _, rfl, rfl, ?_⟩
    refine ⟨.ref sc, rfl, 63, rfl, sc, _, rfl, hS, fun D nD => ?_⟩
    have s0 := same_upd (o := .lst (cutV (iv ns) none (some 63))) nD
    have hD : SqL K (upd H D (.lst (cutV (iv ns) none (some 63)))) D (cutV (iv ns) none (some 63)) := .inl (.inl upd_same)
    refine ⟨D, rfl, ⟨_, hD⟩, ?_⟩
    have cutE : ∀ x ∈ cutV (iv ns) none (some 63), ∃ z, x = V.int z := fun x hx => by
      have : x ∈ iv ns := by
        unfold cutV at hx
        exact List.mem_of_mem_drop (List.mem_of_mem_take hx)
      obtain ⟨z, _, e⟩ := List.mem_map.mp this
      exact ⟨z, e.symm⟩
    refine for_it (walk_list (xs := cutV (iv ns) none (some 63))) (fun i σ H' => ∃ (fo : Int) (y3 y4 : Option V), σ = [some (.ref sc), some (.int k), some (.int fo), y3, y4] ∧ 0 ≤ fo ∧ fo < 2147483647 ∧ Same H H' ∧ SqL K H' D (cutV (iv ns) none (some 63)))
      ⟨_, _, _, rfl, by omega, by omega, s0, hD⟩ (fun i σ H' _ h => by obtain ⟨_, _, _, _, _, _, _, h⟩ := h; exact h) ?_ ?_
    · rintro i x σ H2 H3 hi ⟨fo, y3, y4, rfl, f0, f1, s2, h2⟩ ⟨rfl, hx⟩
      obtain ⟨z, rfl⟩ := cutE x (List.mem_of_getElem? hx)
      refine ⟨.int fo, rfl, _, _, rfl, rfl, .inl ⟨by omega, by omega⟩, .int z, rfl, _, _, rfl, rfl, _, _, rfl, rfl, (show (0 : Int) < 2147483647 by decide), ?_⟩
      exact ⟨_, _, _, rfl, Int.emod_nonneg _ (by decide), Int.emod_lt_of_pos _ (by decide), s2, h2⟩
    · rintro σ H2 ⟨fo, y3, y4, rfl, f0, f1, s2, h2⟩
      have hS2 := s2.seq hS
      have fin : ∀ z : Int, ∀ p, H2 p = none → Q (.ref p) (upd H2 p (.lst [.int z, .int 0, .int fo])) := fun z p np =>
        q _ p (s2.trans (same_upd np)) (s2.free np) ⟨z, 0, fo, upd_same, Int.le_refl _, Int.le_refl _, f0, f1⟩
      refine ⟨.ref sc, rfl, sc, _, rfl, .inl hS2, _, 0, rfl, rfl, _, rfl, ite2 (fun h => ?_) (fun h => ?_)⟩
      · have l0 : (0 : Int) < ((iv ns).length : Nat) := of_decide_eq_true h
        have lx := iv_len ns
        have m0 := Int.emod_nonneg (k : Int) (show ((iv ns).length : Int) ≠ 0 by omega)
        have m1 := Int.emod_lt_of_pos (k : Int) l0
        have hat : atI (iv ns) ((k : Int) % ((iv ns).length : Nat)) = some (.int (g ns ((k : Int) % ((iv ns).length : Nat)).toNat)) := at_of (j := ((k : Int) % ((iv ns).length : Nat)).toNat) (by omega) (get_iv (by omega))
        refine ⟨.ref sc, rfl, .int k, rfl, .ref sc, rfl, sc, _, rfl, .inl hS2, _, _, rfl, rfl, l0, sc, _, _, _, rfl, rfl, hS2, hat, _, _, rfl, rfl, ⟨by decide, by decide, by decide⟩, _, _, rfl, rfl, _, rfl, ite2 (fun h3 => ?_) (fun h3 => ?_)⟩
        · refine ⟨.ref sc, rfl, .int k, rfl, .ref sc, rfl, sc, _, rfl, .inl hS2, _, _, rfl, rfl, l0, sc, _, _, _, rfl, rfl, hS2, hat, _, _, rfl, rfl, ⟨by decide, by decide, by decide⟩, _, _, rfl, rfl, ?_⟩
          exact ⟨_, rfl, _, rfl, sz_le (by show 3 ≤ 1000000; decide), fin _⟩
        · exact ⟨_, rfl, _, rfl, sz_le (by show 3 ≤ 1000000; decide), fin _⟩
      · exact ⟨_, rfl, _, rfl, sz_le (by show 3 ≤ 1000000; decide), fin _⟩

/-! ### _law_take -/
abbrev s__law_take : Stmt := topS 50
theorem sc__law_take : FnScope ["_law_pen_here", "_law_size", "_law_found", "_law_number"] ["_law_pen_here", "_law_size"] (defScope s__law_take) := ⟨rfl, rfl, rfl, by decide +kernel, rfl, by decide +kernel, by decide +kernel⟩
def spTake : Sp := fun vs H Q _ => ∃ (pen : Addr) (n : Nat) (sz : Int), vs = [.ref pen, .int sz] ∧ PenAt H pen n ∧ n ≤ 1000000 ∧ 0 < sz ∧ sz < 1073741824 ∧ ∀ (H' : Hp) (v : Int), SameX pen H H' → PenAt H' pen (n + 1) → 0 ≤ v → v < sz → Q (.int v) H'
theorem ok_law_take (F : Fun K "_law_take" "_law_take" s__law_take f fd) : FnOk P w K mg base CX0 1 f fd ["_law_pen_here", "_law_size"] spTake := by
  refine F.ok sc__law_take (fun vs H Q E h => ?_) (fun cdv A outer s H vs Q E hr h => ?_)
  · obtain ⟨pen, n, sz, rfl, _⟩ := h
    rfl
  · obtain ⟨pen, n, sz, rfl, ⟨z, c, fo, hp, c0, c1, f0, f1⟩, hn, h0, h1, q⟩ := h
    have hq : ∀ {H' : Hp} {xs : List V}, H' pen = some (.lst xs) → SqL K H' pen xs := fun h => .inl (.inl h)
    have e31 : (2147483647 : Int) = 2147483647 := rfl
    refine ⟨_, (pss_cons (ps_if (pt_cmpR op_gt (pe_ix (r := rIxL K) ix_list (pv 0) pe_int (fun _ _ => rfl)) pe_int (nomark _))
        (pss_cons (ps_set (i := 2) sc__law_take.nd rfl (.inl rfl) (pe_op op_mod (pe_ix (r := rIxL K) ix_list (pv 0) pe_int (fun _ _ => rfl)) (pv 1)))
        (pss_cons (ps_asg (pe_op op_fdiv (pe_ix (r := rIxL K) ix_list (pv 0) pe_int (fun _ _ => rfl)) (pv 1)) (pg_sub (pv 0) pe_int set_list))
        (pss_one (ps_ret (pv 2)))))
        pss_nil)
      (pss_cons (ps_asg (pe_op op_add (pe_ix (r := rIxL K) ix_list (pv 0) pe_int (fun _ _ => rfl)) pe_int) (pg_sub (pv 0) pe_int set_list))
      (pss_cons (ps_set (i := 3) sc__law_take.nd rfl (.inl rfl) (pe_op op_mod (pe_op op_pow (pe_op op_add (pe_ix (r := rIxL K) ix_list (pv 0) pe_int (fun _ _ => rfl)) (pe_op op_mul pe_int (pe_ix (r := rIxL K) ix_list (pv 0) pe_int (fun _ _ => rfl)))) pe_int) pe_int))
      (pss_cons (ps_set (i := 3) sc__law_take.nd rfl (.inl rfl) (pe_op op_mod (pe_op op_pow (pe_op op_add (pv 3) (pe_op op_mul pe_int (pe_ix (r := rIxL K) ix_list (pv 0) pe_int (fun _ _ => rfl)))) pe_int) pe_int))
      (pss_one (ps_ret (pe_op op_mod (pe_op op_fdiv (pv 3) pe_int) (pv 1)))))))), ?_⟩
    refine ⟨.ref pen, rfl, pen, _, 0, .int z, rfl, rfl, hq hp, atI_nat (j := 0) rfl, z, 0, rfl, rfl, _, rfl, ite2 (fun h => ?_) (fun h => ?_)⟩
    · refine ⟨.ref pen, rfl, pen, _, 0, .int z, rfl, rfl, hq hp, atI_nat (j := 0) rfl, .int sz, rfl, _, _, rfl, rfl, h0, ?_⟩
      refine ⟨.ref pen, rfl, pen, _, 0, .int z, rfl, rfl, hq hp, atI_nat (j := 0) rfl, .int sz, rfl, _, _, rfl, rfl, ⟨h0, h1⟩, .ref pen, rfl, pen, _, 0, 0, rfl, rfl, hp, rfl, ?_⟩
      exact ⟨_, rfl, q _ _ sameX_upd ⟨_, c, fo, upd_same, c0, by omega, f0, f1⟩ (Int.emod_nonneg _ (by omega)) (Int.emod_lt_of_pos _ h0)⟩
    · refine ⟨.ref pen, rfl, pen, _, 1, .int c, rfl, rfl, hq hp, atI_nat (j := 1) rfl, _, _, rfl, rfl, .ref pen, rfl, pen, _, 1, 1, rfl, rfl, hp, rfl, ?_⟩
      have hp2 : (upd H pen (.lst ([V.int z, V.int c, V.int fo].set 1 (V.int (c + 1))))) pen = some (.lst [.int z, .int (c + 1), .int fo]) := upd_same
      have sx : SameX pen H (upd H pen (.lst ([V.int z, V.int c, V.int fo].set 1 (V.int (c + 1))))) := sameX_upd
      generalize hH2 : upd H pen (.lst ([V.int z, V.int c, V.int fo].set 1 (V.int (c + 1)))) = H2 at *
      refine ⟨.ref pen, rfl, pen, _, 2, .int fo, rfl, rfl, hq hp2, atI_nat (j := 2) rfl, .ref pen, rfl, pen, _, 1, .int (c + 1), rfl, rfl, hq hp2, atI_nat (j := 1) rfl, _, _, rfl, rfl, .inl ⟨by decide, by decide⟩, _, _, rfl, rfl, _, _, rfl, rfl, ⟨by decide, by decide, ?_⟩, _, _, rfl, rfl, (show (0 : Int) < 2147483647 by decide), ?_⟩
      · show (fo + 7919 * (c + 1)).natAbs < 2 ^ 64
        have : (2 : Nat) ^ 64 = 18446744073709551616 := by decide
        omega
      have a0 := Int.emod_nonneg ((fo + 7919 * (c + 1)) ^ (5 : Int).toNat) (show (2147483647 : Int) ≠ 0 by decide)
      have a1 := Int.emod_lt_of_pos ((fo + 7919 * (c + 1)) ^ (5 : Int).toNat) (show (0 : Int) < 2147483647 by decide)
      generalize hx : (fo + 7919 * (c + 1)) ^ (5 : Int).toNat % 2147483647 = x at *
      refine ⟨.int x, ?_, .ref pen, rfl, pen, _, 1, .int (c + 1), rfl, rfl, hq hp2, atI_nat (j := 1) rfl, _, _, rfl, rfl, .inl ⟨by decide, by decide⟩, _, _, rfl, rfl, _, _, rfl, rfl, ⟨by decide, by decide, ?_⟩, _, _, rfl, rfl, (show (0 : Int) < 2147483629 by decide), ?_⟩
      · show some (some (V.int _)) = some (some (V.int x))
        rw [← hx]
      · show (x + 104729 * (c + 1)).natAbs < 2 ^ 64
        have : (2 : Nat) ^ 64 = 18446744073709551616 := by decide
        omega
      refine ⟨_, rfl, _, _, rfl, rfl, ⟨by decide, by decide⟩, .int sz, rfl, _, _, rfl, rfl, h0, ?_⟩
      exact q _ _ sx ⟨z, c + 1, fo, hp2, by omega, by omega, f0, f1⟩ (Int.emod_nonneg _ (by omega)) (Int.emod_lt_of_pos _ h0)
end
end LG

/-! ## W16 -/
set_option maxRecDepth 100000
set_option maxHeartbeats 4000000
namespace LG
open PySem PySem.Spec PyProof.Rows L2

theorem erase_map {α β : Type} (f : α → β) : ∀ (l : List α) (k : Nat), (l.map f).eraseIdx k = (l.eraseIdx k).map f
  | [], _ => rfl
  | _ :: _, 0 => rfl
  | x :: xs, k + 1 => congrArg (f x :: ·) (erase_map f xs k)
theorem seqIx {n : Nat} {i : Int} (h0 : 0 ≤ i) (h1 : i < n) : seqIndex? i n = some i.toNat := (ixN_seq (by unfold ixN; rw [if_pos h0, if_pos h1])).1
theorem SameX.seqX {K : PySem.W.Frag} {H H' : Hp} {a D : Addr} {xs : List V} (e : SameX D H H') (n : a ≠ D) (h : SqL K H a xs) : SqL K H' a xs := by
  rcases h with (h | ⟨o, h⟩) | h
  · exact .inl (.inl (e _ _ n h))
  · exact .inl (.inr ⟨o, e _ _ n h⟩)
  · exact .inr h
theorem Same.ofX {a : Addr} {H H' : Hp} (h : SameX a H H') (hn : H a = none) : Same H H' := fun b o hb => h b o (ne_of_none hb hn) hb
/-- what is new stays new ahead -/
theorem SameX.free {a : Addr} {H H' : Hp} (h : SameX a H H') {l : Addr} (n : l ≠ a) (e : H' l = none) : H l = none := by
  cases q : H l with
  | none => rfl
  | some o => rw [h l o n q] at e; cases e

section
variable {P : Program} {w : World} {K : PySem.W.Frag} {mg : Str → Option Value} {base : Heap} {f : Addr} {fd : FuncData}
structure CTake (P : Program) (w : World) (K : PySem.W.Frag) (mg : Str → Option Value) (base : Heap) : Prop where
  _law_take : Cal P w K mg base "_law_take" ["_law_pen_here", "_law_size"] spTake 1

/-! ### _law_mixed -/
abbrev s__law_mixed : Stmt := topS 51
theorem sc__law_mixed : FnScope ["_law_pen_here", "_law_things", "_law_rest", "_law_k"] ["_law_pen_here", "_law_things"] (defScope s__law_mixed) := ⟨rfl, rfl, rfl, by decide +kernel, rfl, by decide +kernel, by decide +kernel⟩
def spMixed (K : PySem.W.Frag) : Sp := fun vs H Q _ => ∃ (pen th : Addr) (cs : List Nat) (n : Nat), vs = [.ref pen, .ref th] ∧ PenAt H pen n ∧ n ≤ 900000 ∧ th ≠ pen ∧ SqL K H th (cs.map sg1) ∧ cs.length ≤ 30 ∧
  ∀ (H' : Hp) (p : Addr) (ys : List Nat), SameX pen H H' → PenAt H' pen (n + 30) → H p = none → H' p = some (.lst (ys.map sg1)) → ys.length = cs.length → (∀ c ∈ ys, c ∈ cs) → Q (.ref p) H'
theorem ok_law_mixed (F : Fun K "_law_mixed" "_law_mixed" s__law_mixed f fd) (B : Bi mg) (C : CTake P w K mg base) : FnOk P w K mg base CX0 2 f fd ["_law_pen_here", "_law_things"] (spMixed K) := by
  refine F.ok sc__law_mixed (fun vs H Q E h => ?_) (fun cdv A outer s H vs Q E hr h => ?_)
  · obtain ⟨pen, th, cs, n, rfl, _⟩ := h
    rfl
  · obtain ⟨pen, th, cs, n, rfl, hp, hn, hne, ht, hl, q⟩ := h
    refine ⟨_, (pss_cons (ps_set (i := 2) sc__law_mixed.nd rfl (.inr rfl) (pe_callTy call_list_of (by rfl) B.list (by decide +kernel) (pa_cons (pv 1) pa_nil)))
      (pss_one (ps_ret (pe_lc (own := [("_law_k", 3)]) (g := _) (tt := tYes) rfl sc__law_mixed.nd (pi_range1 rfl B.range (pa_cons (pe_callB (r := rLenSeq K) call_len_seq (by rfl) B.len (by decide +kernel) (pa_cons (pv 1) pa_nil)) pa_nil)) (blkOk_by (N := ["_law_pen_here", "_law_things", "_law_rest", "_law_k"]) (sc := defScope s__law_mixed) (by decide +kernel)) (fun _ _ _ _ _ => (pg_name (i := 3) sc__law_mixed.nd rfl (.inl rfl))) (fun _ _ _ _ _ => pts_nil) (fun _ _ _ _ _ => (show PE _ _ (tBM K "list" _ _ _) from pe_bm PySem.F.plainAttrs_list PySem.F.slot_list_pop PySem.F.type_list_pop mt_popAt (pv 2) (pa_cons (pe_cal C._law_take hr (by decide) (pa_cons (pv 0) (pa_cons (pe_callB (r := rLenSeq K) call_len_seq (by rfl) B.len (by decide +kernel) (pa_cons (pv 2) pa_nil)) pa_nil))) pa_nil))))))), ?_⟩
    refine ⟨.ref th, rfl, th, _, rfl, .inl ht, fun R nR => ?_⟩
    have s0 := same_upd (o := .lst (cs.map sg1)) nR
    have hR : (upd H R (.lst (cs.map sg1))) R = some (.lst (cs.map sg1)) := upd_same
    have hp0 := hp.keep s0
    have ht0 := s0.seq ht
    obtain ⟨po, hpo⟩ := hp.some
    have nRp : R ≠ pen := (ne_of_none hpo nR).symm
    generalize hH0 : upd H R (.lst (cs.map sg1)) = H0 at *
    refine ⟨.ref th, rfl, th, _, rfl, .inl ht0, _, rfl, by rw [List.length_map]; omega, by rw [List.length_map]; omega, fun D nD => ?_⟩
    rw [List.length_map, Int.toNat_natCast]
    have nDR : D ≠ R := (ne_of_none hR nD).symm
    obtain ⟨po2, hpo2⟩ := hp0.some
    have nDp : D ≠ pen := (ne_of_none hpo2 nD).symm
    refine lc_it (walk_range (lo := 0) (n := cs.length)) (fun i H' => (∀ b o, b ≠ pen → H b = some o → H' b = some o) ∧ PenAt H' pen (n + i) ∧ ∃ rs acc : List Nat, H' R = some (.lst (rs.map sg1)) ∧ H' D = some (.lst (acc.map sg1)) ∧ rs.length = cs.length - i ∧ acc.length = i ∧
      (∀ c ∈ rs, c ∈ cs) ∧ ∀ c ∈ acc, c ∈ cs) ?_ (fun _ _ _ _ => trivial) ?_ ?_
    · have s1 := same_upd (o := .lst []) nD
      exact ⟨fun b o _ hb => s1 _ _ (s0 _ _ hb), hp0.keep s1, cs, [], s1 _ _ hR, upd_same, rfl, rfl, fun c h => h, fun c h => by cases h⟩
    · rintro i x H2 H3 hi ⟨sm, hp2, rs, acc, hR2, hD2, lr, la, mr, ma⟩ ⟨rfl, ex⟩
      refine ⟨rfl, yes_ok ?_⟩
      refine ⟨.ref R, rfl, .inl ⟨rfl, _, .inl (.inl hR2)⟩, .ref pen, rfl, .ref R, rfl, R, _, rfl, .inl (.inl (.inl hR2)), pen, n + i, ((rs.map sg1).length : Nat), rfl, hp2, by omega, by rw [List.length_map]; omega, by rw [List.length_map]; omega, fun H4 v sx hp4 v0 v1 => ?_⟩
      rw [List.length_map] at v1
      have hR4 := sx _ _ nRp hR2
      have hD4 := sx _ _ nDp hD2
      have hv : v.toNat < rs.length := by omega
      refine ⟨R, rs.map sg1, v, v.toNat, sg1 rs[v.toNat], rfl, rfl, hR4, by omega, by omega, seqIx v0 (by rw [List.length_map]; exact v1), by rw [List.getElem?_map, List.getElem?_eq_getElem hv]; rfl, ?_⟩
      refine ⟨acc.map sg1, by rw [upd_ne nDR]; exact hD4, sz_lt (by rw [List.length_map]; omega), ?_, ?_, rs.eraseIdx v.toNat, acc ++ [rs[v.toNat]], ?_, ?_, ?_, ?_, ?_, ?_⟩
      · intro b o nb hb
        have hb4 := sx _ _ nb (sm b o nb hb)
        have h1 : b ≠ R := ne_of_none hb nR
        have h2 : b ≠ D := ne_of_none (s0 _ _ hb) nD
        rw [upd_ne h2, upd_ne h1]
        exact hb4
      · have e1 := hp4.other (sameX_upd (o := .lst ((rs.map sg1).eraseIdx v.toNat))) nRp.symm
        have e2 := e1.other (sameX_upd (a := D) (o := .lst (acc.map sg1 ++ [sg1 rs[v.toNat]]))) nDp.symm
        exact e2.mono (by omega)
      · rw [upd_ne nDR.symm, upd_same, erase_map]
      · rw [upd_same, List.map_append]; rfl
      · rw [List.length_eraseIdx, if_pos hv]; omega
      · rw [List.length_append, la]; rfl
      · exact fun c hc => mr c (List.mem_of_mem_eraseIdx hc)
      · intro c hc
        rcases List.mem_append.mp hc with h | h
        · exact ma c h
        · rw [List.mem_singleton] at h
          subst h
          exact mr _ (List.getElem_mem hv)
    · rintro H2 ⟨sm, hp2, rs, acc, hR2, hD2, lr, la, mr, ma⟩
      exact q H2 D acc (fun b o nb hb => sm b o nb hb) (hp2.mono (by omega)) (s0.free nD) hD2 la ma

/-! ### _law_text -/
abbrev s__law_text : Stmt := topS 52
theorem sc__law_text : FnScope ["_law_pen_here", "_law_signs", "_law_many", "_law_k"] ["_law_pen_here", "_law_signs", "_law_many"] (defScope s__law_text) := ⟨rfl, rfl, rfl, by decide +kernel, rfl, by decide +kernel, by decide +kernel⟩
def spText (K : PySem.W.Frag) : Sp := fun vs H Q _ => ∃ (pen sg : Addr) (cs : List Nat) (m n : Nat), vs = [.ref pen, .ref sg, .int m] ∧ PenAt H pen n ∧ n ≤ 900000 ∧ sg ≠ pen ∧ SqL K H sg (cs.map sg1) ∧ cs.length ≤ 1000 ∧ m ≤ 20 ∧
  ∀ (H' : Hp) (t : List Nat), SameX pen H H' → PenAt H' pen (n + 20) → t.length ≤ m → (∀ c ∈ t, c ∈ cs) → Q (.str (sOf t)) H'
theorem ok_law_text (F : Fun K "_law_text" "_law_text" s__law_text f fd) (B : Bi mg) (C : CTake P w K mg base) : FnOk P w K mg base CX0 2 f fd ["_law_pen_here", "_law_signs", "_law_many"] (spText K) := by
  refine F.ok sc__law_text (fun vs H Q E h => ?_) (fun cdv A outer s H vs Q E hr h => ?_)
  · obtain ⟨pen, sg, cs, m, n, rfl, _⟩ := h
    rfl
  · obtain ⟨pen, sg, cs, m, n, rfl, hp, hn, hne, hs, hl, hm, q⟩ := h
    refine ⟨_, (pss_one (ps_ret (pe_join pe_str (pe_lc (own := [("_law_k", 3)]) (g := _) (tt := tYes) rfl sc__law_text.nd (pi_range1 rfl B.range (pa_cons (pe_op op_mul (pv 2) (pe_callTy call_int1 (by rfl) B.int (by decide +kernel) (pa_cons (pe_cmpR op_gt (pe_callB (r := rLenSeq K) call_len_seq (by rfl) B.len (by decide +kernel) (pa_cons (pv 1) pa_nil)) pe_int (nomark _)) pa_nil))) pa_nil)) (blkOk_by (N := ["_law_pen_here", "_law_signs", "_law_many", "_law_k"]) (sc := defScope s__law_text) (by decide +kernel)) (fun _ _ _ _ _ => (pg_name (i := 3) sc__law_text.nd rfl (.inl rfl))) (fun _ _ _ _ _ => pts_nil) (fun _ _ _ _ _ => (pe_ix (r := rIxL K) ix_list (pv 1) (pe_cal C._law_take hr (by decide) (pa_cons (pv 0) (pa_cons (pe_callB (r := rLenSeq K) call_len_seq (by rfl) B.len (by decide +kernel) (pa_cons (pv 1) pa_nil)) pa_nil))) (fun _ _ => rfl))))))), ?_⟩
    obtain ⟨po, hpo⟩ := hp.some
    refine ⟨⟨_, rfl⟩, .int m, rfl, .ref sg, rfl, sg, _, rfl, .inl hs, _, 0, rfl, rfl, .inr ⟨_, rfl, _, _, rfl, rfl, .inl ⟨by omega, by omega⟩, ?_⟩⟩
    have many : ∃ k : Nat, k ≤ m ∧ (m : Int) * (if decide ((0 : Int) < ((cs.map sg1).length : Nat)) = true then 1 else 0) = (k : Int) ∧ (0 < k → 0 < cs.length) := by
      by_cases h : (0 : Int) < ((cs.map sg1).length : Nat)
      · rw [List.length_map] at h
        refine ⟨m, Nat.le_refl _, ?_, fun _ => by omega⟩
        rw [if_pos (decide_eq_true (by rw [List.length_map]; exact h))]; omega
      · refine ⟨0, Nat.zero_le _, ?_, fun h => by omega⟩
        rw [if_neg (by rw [decide_eq_false h]; decide)]; omega
    obtain ⟨k, k1, k2, k3⟩ := many
    refine ⟨_, rfl, by rw [k2]; omega, by rw [k2]; omega, fun D nD => ?_⟩
    rw [k2, Int.toNat_natCast]
    have nDp : D ≠ pen := (ne_of_none hpo nD).symm
    refine lc_it (walk_range (lo := 0) (n := k)) (fun i H' => (∀ b o, b ≠ pen → H b = some o → H' b = some o) ∧ PenAt H' pen (n + i) ∧ ∃ acc : List Nat, H' D = some (.lst (acc.map sg1)) ∧ acc.length = i ∧ ∀ c ∈ acc, c ∈ cs) ?_ (fun _ _ _ _ => trivial) ?_ ?_
    · have s1 := same_upd (o := .lst []) nD
      exact ⟨fun b o _ hb => s1 _ _ hb, hp.keep s1, [], upd_same, rfl, fun c h => by cases h⟩
    · rintro i x H2 H3 hi ⟨sm, hp2, acc, hD2, la, ma⟩ ⟨rfl, ex⟩
      have sX : SameX pen H H3 := fun b o nb hb => sm b o nb hb
      have hs2 := sX.seqX hne hs
      have lcs := k3 (by omega)
      refine ⟨rfl, yes_ok ?_⟩
      refine ⟨.ref sg, rfl, .ref pen, rfl, .ref sg, rfl, sg, _, rfl, .inl hs2, pen, n + i, ((cs.map sg1).length : Nat), rfl, hp2, by omega, by rw [List.length_map]; omega, by rw [List.length_map]; omega, fun H4 v sx hp4 v0 v1 => ?_⟩
      rw [List.length_map] at v1
      have hv : v.toNat < cs.length := by omega
      have hD4 := sx _ _ nDp hD2
      refine ⟨sg, _, v, sg1 cs[v.toNat], rfl, rfl, sx.seqX hne hs2, at_of (j := v.toNat) (by omega) (by rw [List.getElem?_map, List.getElem?_eq_getElem hv]; rfl), ?_⟩
      refine ⟨acc.map sg1, hD4, sz_lt (by rw [List.length_map]; omega), ?_, ?_, acc ++ [cs[v.toNat]], ?_, ?_, ?_⟩
      · intro b o nb hb
        rw [upd_ne (ne_of_none hb nD)]
        exact sx _ _ nb (sm b o nb hb)
      · exact (hp4.other (sameX_upd (a := D)) nDp.symm).mono (by omega)
      · rw [upd_same, List.map_append]; rfl
      · rw [List.length_append, la]; rfl
      · intro c hc
        rcases List.mem_append.mp hc with h | h
        · exact ma c h
        · rw [List.mem_singleton] at h
          subst h
          exact List.getElem_mem hv
    · rintro H2 ⟨sm, hp2, acc, hD2, la, ma⟩
      refine ⟨sOf [], D, acc.map fun c => sOf [c], rfl, rfl, .inl (.inl (.inl (by rw [hD2, List.map_map]; rfl))), ?_, ?_⟩
      · have e1 : (acc.map fun c => sOf [c]).map (·.length) = List.replicate acc.length 1 := by
          rw [List.map_map, List.eq_replicate_iff]
          refine ⟨List.length_map _, fun x hx => ?_⟩
          obtain ⟨p, _, e⟩ := List.mem_map.mp hx
          rw [← e]; exact sOf_len [p]
        rw [e1, sOf_len, List.sum_replicate_nat]
        simp
        omega
      · rw [join_sings]
        exact q H2 acc (fun b o nb hb => sm b o nb hb) (hp2.mono (by omega)) (by omega) ma

/-! ### _law_great -/
abbrev s__law_great : Stmt := topS 53
theorem sc__law_great : FnScope ["_law_pen_here", "_law_times", "_law_number", "_law_k"] ["_law_pen_here", "_law_times"] (defScope s__law_great) := ⟨rfl, rfl, rfl, by decide +kernel, rfl, by decide +kernel, by decide +kernel⟩
def spGreat : Sp := fun vs H Q _ => ∃ (pen : Addr) (m n : Nat), vs = [.ref pen, .int m] ∧ PenAt H pen n ∧ n ≤ 900000 ∧ m ≤ 20 ∧ ∀ (H' : Hp) (v : Int), SameX pen H H' → PenAt H' pen (n + 20) → 0 ≤ v → Q (.int v) H'
theorem ok_law_great (F : Fun K "_law_great" "_law_great" s__law_great f fd) (B : Bi mg) (C : CTake P w K mg base) : FnOk P w K mg base CX0 2 f fd ["_law_pen_here", "_law_times"] spGreat := by
  refine F.ok sc__law_great (fun vs H Q E h => ?_) (fun cdv A outer s H vs Q E hr h => ?_)
  · obtain ⟨pen, m, n, rfl, _⟩ := h
    rfl
  · obtain ⟨pen, m, n, rfl, hp, hn, hm, q⟩ := h
    refine ⟨_, (pss_cons (ps_set (i := 2) sc__law_great.nd rfl (.inl rfl) pe_int)
      (pss_cons (ps_for PassesOwn.never rfl (pi_range1 rfl B.range (pa_cons (pv 1) pa_nil)) (pg_name (i := 3) sc__law_great.nd rfl (.inl rfl))
        (pss_one (ps_set (i := 2) sc__law_great.nd rfl (.inl rfl) (pe_op op_add (pe_op op_mul (pv 2) (pe_op op_pow pe_int pe_int)) (pe_cal C._law_take hr (by decide) (pa_cons (pv 0) (pa_cons (pe_op op_pow pe_int pe_int) pa_nil)))))))
      (pss_one (ps_ret (pv 2))))), ?_⟩
    refine ⟨.int m, rfl, (m : Int), rfl, by omega, by omega, ?_⟩
    rw [Int.toNat_natCast]
    refine for_it (walk_range (lo := 0) (n := m)) (fun i σ H' => ∃ (v : Int) (y3 : Option V), σ = [some (.ref pen), some (.int m), some (.int v), y3] ∧ 0 ≤ v ∧ SameX pen H H' ∧ PenAt H' pen (n + i)) ⟨0, _, rfl, Int.le_refl _, SameX.refl _ _, hp⟩ (fun _ _ _ _ _ => trivial) ?_ ?_
    · rintro i x σ H2 H3 hi ⟨v, y3, rfl, v0, sx, hp2⟩ ⟨rfl, ex⟩
      have e8 : (10 : Int) ^ (8 : Int).toNat = 100000000 := by decide
      refine ⟨.int v, rfl, _, _, rfl, rfl, ⟨by decide, by decide, by decide⟩, _, _, rfl, rfl, .inr ⟨by rw [e8]; decide, by rw [e8]; decide⟩, .ref pen, rfl, _, _, rfl, rfl, ⟨by decide, by decide, by decide⟩, pen, n + i, (10 : Int) ^ (8 : Int).toNat, rfl, hp2, by omega, by rw [e8]; decide, by rw [e8]; decide, fun H4 u sx4 hp4 u0 u1 => ?_⟩
      refine ⟨_, _, rfl, rfl, v * (10 : Int) ^ (8 : Int).toNat + u, _, rfl, ?_, sx.trans sx4, hp4⟩
      rw [e8]
      omega
    · rintro σ H2 ⟨v, y3, rfl, v0, sx, hp2⟩
      exact ⟨.int v, rfl, q H2 v sx (hp2.mono (by omega)) v0⟩
end
end LG

/-! ## W17 -/
set_option maxRecDepth 100000
set_option maxHeartbeats 4000000
namespace LG
open PySem PySem.Spec PyProof.Rows L2

/-! ### dicts from letters to texts -/
abbrev Ks := List (Nat × List Nat)
def kc (c : Nat) : Key := Sum.inr (sOf [c])
def dkv (ks : Ks) : List (Key × V) := ks.map fun p => (kc p.1, V.str (sOf p.2))
def putA (ks : Ks) (c : Nat) (u : List Nat) : Ks := if c ∈ ks.map (·.1) then ks.map (fun p => if p.1 = c then (p.1, u) else p) else ks ++ [(c, u)]
theorem kc_inj {a b : Nat} (h : kc a = kc b) : a = b := (List.cons.inj (by
  have h1 : sOf [a] = sOf [b] := Sum.inr.inj h
  have h2 := congrArg TL.tl h1
  rwa [tl_sOf, tl_sOf] at h2)).1
theorem dkv_put (ks : Ks) (c : Nat) (u : List Nat) : putK (dkv ks) (kc c) (V.str (sOf u)) = dkv (putA ks c u) := by
  have e : ((dkv ks).any fun kv => decide (kv.1 = kc c)) = decide (c ∈ ks.map (·.1)) := by
    rw [Bool.eq_iff_iff, List.any_eq_true, decide_eq_true_eq, List.mem_map]
    constructor
    · rintro ⟨x, hx, hk⟩
      obtain ⟨p, hp, rfl⟩ := List.mem_map.mp hx
      exact ⟨p, hp, kc_inj (of_decide_eq_true hk)⟩
    · rintro ⟨p, hp, rfl⟩
      exact ⟨_, List.mem_map.mpr ⟨p, hp, rfl⟩, decide_eq_true rfl⟩
  unfold putK putA
  rw [e]
  by_cases h : c ∈ ks.map (·.1)
  · rw [if_pos (decide_eq_true h), if_pos h]
    unfold dkv
    rw [List.map_map, List.map_map]
    refine List.map_congr_left fun p _ => ?_
    show (if kc p.1 = kc c then (kc p.1, V.str (sOf u)) else (kc p.1, V.str (sOf p.2))) = (kc (if p.1 = c then (p.1, u) else p).1, V.str (sOf (if p.1 = c then (p.1, u) else p).2))
    by_cases h2 : p.1 = c
    · rw [if_pos (by rw [h2]), if_pos h2]
    · rw [if_neg (fun z => h2 (kc_inj z)), if_neg h2]
  · rw [if_neg (by rw [decide_eq_false h]; decide), if_neg h]
    unfold dkv
    rw [List.map_append]; rfl
theorem putA_keys (ks : Ks) (c : Nat) (u : List Nat) : (putA ks c u).map (·.1) = if c ∈ ks.map (·.1) then ks.map (·.1) else ks.map (·.1) ++ [c] := by
  unfold putA
  by_cases h : c ∈ ks.map (·.1)
  · rw [if_pos h, if_pos h, List.map_map]
    refine List.map_congr_left fun p _ => ?_
    show (if p.1 = c then (p.1, u) else p).1 = p.1
    split <;> rfl
  · rw [if_neg h, if_neg h, List.map_append]; rfl
theorem putA_nodup {ks : Ks} {c : Nat} {u : List Nat} (h : (ks.map (·.1)).Nodup) : ((putA ks c u).map (·.1)).Nodup := by
  rw [putA_keys]
  by_cases hc : c ∈ ks.map (·.1)
  · rw [if_pos hc]; exact h
  · rw [if_neg hc]
    exact nd_snoc h hc
theorem putA_len (ks : Ks) (c : Nat) (u : List Nat) : (putA ks c u).length ≤ ks.length + 1 := by
  unfold putA
  split
  · rw [List.length_map]; omega
  · rw [List.length_append]; exact Nat.le_refl _
theorem putA_len_in {ks : Ks} {c : Nat} {u : List Nat} (h : c ∈ ks.map (·.1)) : (putA ks c u).length = ks.length := by
  unfold putA
  rw [if_pos h, List.length_map]
theorem putA_mem {ks : Ks} {c : Nat} {u : List Nat} {p : Nat × List Nat} (h : p ∈ putA ks c u) : p ∈ ks ∨ p = (c, u) := by
  unfold putA at h
  split at h
  · obtain ⟨q, hq, e⟩ := List.mem_map.mp h
    by_cases hc : q.1 = c
    · rw [if_pos hc] at e
      exact .inr (by rw [← e, hc])
    · rw [if_neg hc] at e
      exact .inl (by rw [← e]; exact hq)
  · rcases List.mem_append.mp h with h | h
    · exact .inl h
    · exact .inr (List.mem_singleton.mp h)
theorem mem_keys {ks : Ks} {p : Nat × List Nat} (h : p ∈ ks) : p.1 ∈ ks.map (·.1) := List.mem_map.mpr ⟨p, h, rfl⟩
theorem putA_has {ks : Ks} {c d : Nat} {u : List Nat} (h : d = c ∨ d ∈ ks.map (·.1)) : d ∈ (putA ks c u).map (·.1) := by
  rw [putA_keys]
  by_cases hc : c ∈ ks.map (·.1)
  · rw [if_pos hc]
    rcases h with h | h
    · rw [h]; exact hc
    · exact h
  · rw [if_neg hc]
    rcases h with h | h
    · rw [h]; exact List.mem_append_right _ (List.mem_singleton.mpr rfl)
    · exact List.mem_append_left _ h
theorem dkv_nodup {ks : Ks} (h : (ks.map (·.1)).Nodup) : ((dkv ks).map (·.1)).Nodup := by
  unfold dkv
  rw [List.map_map]
  have e : ks.map ((fun x : Key × V => x.1) ∘ fun p : Nat × List Nat => (kc p.1, V.str (sOf p.2))) = (ks.map (·.1)).map kc := by rw [List.map_map]; rfl
  rw [e]
  exact List.pairwise_map.mpr (List.Pairwise.imp (fun hne z => hne (kc_inj z)) h)
theorem dkv_val {ks : Ks} (h : (ks.map (·.1)).Nodup) {p : Nat × List Nat} (hp : p ∈ ks) : valV (dkv ks) (kc p.1) = some (V.str (sOf p.2)) :=
  val_nodup (dkv_nodup h) (kc p.1, V.str (sOf p.2)) (List.mem_map.mpr ⟨p, hp, rfl⟩)
theorem dkv_keys (ks : Ks) : (dkv ks).map (·.1) = (ks.map fun p => sOf [p.1]).map Sum.inr := by
  unfold dkv
  rw [List.map_map, List.map_map]; rfl

structure DictOK (ks : Ks) : Prop where
  nd : (ks.map (·.1)).Nodup
  few : ks.length ≤ 5
  word : ∀ p, p ∈ ks → p.2.length ≤ 6
  low : ∀ c, c ∈ ks.map (·.1) → c < 1114112
structure BookOK (first : List Nat) (ks : Ks) : Prop extends DictOK ks where
  lenF : first.length ≤ 5
  inW : ∀ p, p ∈ ks → ∀ c, c ∈ p.2 → c ∈ ks.map (·.1)
  inF : ∀ c, c ∈ first → c ∈ ks.map (·.1)

/-- a book in the making -/
def DrawnAt (K : PySem.W.Frag) (H : Hp) (t : Addr) (first : List Nat) (ks : Ks) : Prop := ∃ d, SqT K H t [.str (sOf first), .ref d] ∧ H d = some (.dK (dkv ks))

theorem cut_signs (cs : List Nat) (lo hi : Option Int) : ∃ ds : List Nat, cutV (cs.map sg1) lo hi = ds.map sg1 ∧ (∀ c ∈ ds, c ∈ cs) ∧ ds.length ≤ cs.length := by
  unfold cutV
  refine ⟨(cs.drop (HT.sIx (cs.map sg1).length 0 lo)).take (HT.sIx (cs.map sg1).length (cs.map sg1).length hi - HT.sIx (cs.map sg1).length 0 lo), by rw [← List.map_drop, ← List.map_take], fun c hc => List.mem_of_mem_drop (List.mem_of_mem_take hc), ?_⟩
  rw [List.length_take, List.length_drop]; omega
theorem cutTake (xs : List V) (n : Nat) : cutV xs none (some (n : Int)) = xs.take n := by
  unfold cutV
  rw [HT.sIx_none, show HT.sIx xs.length xs.length (some (n : Int)) = min n xs.length from HT.sIx_nat xs.length _ n]
  rw [List.drop_zero, Nat.sub_zero]
  by_cases h : n ≤ xs.length
  · rw [Nat.min_eq_left h]
  · rw [Nat.min_eq_right (by omega), List.take_length, List.take_of_length_le (by omega)]
def abc : List Nat := List.range' 97 26
theorem abc_low {c : Nat} (h : c ∈ abc) : c < 1114112 := by
  unfold abc at h
  rw [List.mem_range'_1] at h
  omega
theorem abc_eq : (("abcdefghijklmnopqrstuvwxyz" : String) : Str) = sOf abc := by decide +kernel

section
variable {P : Program} {w : World} {K : PySem.W.Frag} {mg : Str → Option Value} {base : Heap} {f : Addr} {fd : FuncData}

/-! ### _law_free -/
structure CFree (P : Program) (w : World) (K : PySem.W.Frag) (mg : Str → Option Value) (base : Heap) : Prop where
  _law_take : Cal P w K mg base "_law_take" ["_law_pen_here", "_law_size"] spTake 1
  _law_mixed : Cal P w K mg base "_law_mixed" ["_law_pen_here", "_law_things"] (spMixed K) 2
  _law_text : Cal P w K mg base "_law_text" ["_law_pen_here", "_law_signs", "_law_many"] (spText K) 2
abbrev s__law_free : Stmt := topS 54
theorem sc__law_free : FnScope ["_law_pen_here", "_law_layers", "_law_most", "_law_signs", "_law_words", "_law_at", "_law_sign"] ["_law_pen_here"] (defScope s__law_free) := ⟨rfl, rfl, rfl, by decide +kernel, rfl, by decide +kernel, by decide +kernel⟩
def spFree (K : PySem.W.Frag) : Sp := fun vs H Q _ => ∃ (pen : Addr) (n : Nat), vs = [.ref pen] ∧ PenAt H pen n ∧ n ≤ 800000 ∧
  ∀ (H' : Hp) (t : Addr) (first : List Nat) (ks : Ks), SameX pen H H' → PenAt H' pen (n + 1000) → DrawnAt K H' t first ks → BookOK first ks → Q (.ref t) H'
theorem ok_law_free (F : Fun K "_law_free" "_law_free" s__law_free f fd) (B : Bi mg) (C : CFree P w K mg base) : FnOk P w K mg base CX0 3 f fd ["_law_pen_here"] (spFree K) := by
  refine F.ok sc__law_free (fun vs H Q E h => ?_) (fun cdv A outer s H vs Q E hr h => ?_)
  · obtain ⟨pen, n, rfl, _⟩ := h
    rfl
  · obtain ⟨pen, n, rfl, hp, hn, q⟩ := h
    refine ⟨_, (pss_cons (ps_set (i := 1) sc__law_free.nd rfl (.inl rfl) (pe_cal C._law_take hr (by decide) (pa_cons (pv 0) (pa_cons pe_int pa_nil))))
      (pss_cons (ps_set (i := 2) sc__law_free.nd rfl (.inl rfl) (pe_ix (r := rIxL K) ix_list (pe_lst (pa_cons pe_int (pa_cons pe_int (pa_cons pe_int (pa_cons pe_int pa_nil))))) (pe_cal C._law_take hr (by decide) (pa_cons (pv 0) (pa_cons pe_int pa_nil))) (fun _ _ => rfl)))
      (pss_cons (ps_set (i := 3) sc__law_free.nd rfl (.inl rfl) (pe_slice (r := rSlL K) sl_list (pe_cal C._law_mixed hr (by decide) (pa_cons (pv 0) (pa_cons (pe_callTy (call_list_txt rfl) (by rfl) B.list (by decide +kernel) (pa_cons pe_str pa_nil)) pa_nil))) po_none (po_some (pe_ix (r := rIxL K) ix_list (pe_lst (pa_cons pe_int (pa_cons pe_int (pa_cons pe_int (pa_cons pe_int (pa_cons pe_int (pa_cons pe_int pa_nil))))))) (pe_cal C._law_take hr (by decide) (pa_cons (pv 0) (pa_cons pe_int pa_nil))) (fun _ _ => rfl)))))
      (pss_cons (ps_set (i := 4) sc__law_free.nd rfl (.inl rfl) pe_dnewK)
      (pss_cons (ps_for PassesOwn.never rfl (pi_enum (by rfl) B.enumerate (pa_cons (pv 3) pa_nil)) (pg_tup rfl (pgs_cons (pg_name (i := 5) sc__law_free.nd rfl (.inl rfl)) (pgs_cons (pg_name (i := 6) sc__law_free.nd rfl (.inl rfl)) pgs_nil)))
        (pss_one (ps_dput (hu_of hr) (pv 4) (pv 6) (pe_cal C._law_text hr (by decide) (pa_cons (pv 0) (pa_cons (pe_slice (r := rSlL K) sl_list (pv 3) (po_some (pe_op op_mul (pv 1) (pv 5))) po_none) (pa_cons (pe_cal C._law_take hr (by decide) (pa_cons (pv 0) (pa_cons (pv 2) pa_nil))) pa_nil)))) rfl)))
      (pss_one (ps_ret (pe_tup (pa_cons (pe_cal C._law_text hr (by decide) (pa_cons (pv 0) (pa_cons (pv 3) (pa_cons (pe_cal C._law_take hr (by decide) (pa_cons (pv 0) (pa_cons pe_int pa_nil))) pa_nil)))) (pa_cons (pv 4) pa_nil)))))))))), ?_⟩
    obtain ⟨po, hpo⟩ := hp.some
    -- layers
    refine ⟨.ref pen, rfl, pen, n, 2, rfl, hp, by omega, by decide, by decide, fun H1 la sx1 hp1 la0 la1 => ?_⟩
    -- most
    refine ⟨sz_le (by show 4 ≤ 1000000; decide), fun L1 nL1 => ?_⟩
    obtain ⟨po1, hpo1⟩ := hp1.some
    have nL1p : L1 ≠ pen := (ne_of_none hpo1 nL1).symm
    have s1 := same_upd (o := .lst [.int 3, .int 2, .int 4, .int 7]) nL1
    refine ⟨.ref pen, rfl, pen, n + 1, 4, rfl, hp1.keep s1, by omega, by decide, by decide, fun H2 i2 sx2 hp2 i20 i21 => ?_⟩
    obtain ⟨mv, mv1, mv2, _⟩ := atI_pick (ms := [.int 3, .int 2, .int 4, .int 7]) i20 i21
    obtain ⟨mo, rfl, mo0, mo7⟩ : ∃ mo : Int, mv = .int mo ∧ 0 < mo ∧ mo ≤ 7 := by
      simp only [List.mem_cons, List.not_mem_nil, or_false] at mv2
      rcases mv2 with e | e | e | e <;> exact ⟨_, e, by decide, by decide⟩
    refine ⟨L1, _, i2, .int mo, rfl, rfl, .inl (.inl (sx2 _ _ nL1p upd_same)), mv1, ?_⟩
    have sx02 : SameX pen H H2 := (sx1.trans s1.toX).trans sx2
    -- signs
    refine ⟨.ref pen, rfl, abc, congrArg (fun z => [V.str z]) abc_eq, by decide, fun L2 nL2 => ?_⟩
    obtain ⟨po2, hpo2⟩ := hp2.some
    have nL2p : L2 ≠ pen := (ne_of_none hpo2 nL2).symm
    have s2 := same_upd (o := .lst (abc.map sg1)) nL2
    refine ⟨pen, L2, abc, n + 2, rfl, hp2.keep s2, by omega, nL2p, .inl (.inl upd_same), by decide, fun H3 M ys sx3 hp3 nM hM ly my => ?_⟩
    have nMp : M ≠ pen := (ne_of_none (s2 _ _ hpo2) nM).symm
    refine ⟨sz_le (by show 6 ≤ 1000000; decide), fun L3 nL3 => ?_⟩
    obtain ⟨po3, hpo3⟩ := hp3.some
    have nL3p : L3 ≠ pen := (ne_of_none hpo3 nL3).symm
    have s3 := same_upd (o := .lst [.int 2, .int 3, .int 1, .int 4, .int 5, .int 0]) nL3
    refine ⟨.ref pen, rfl, pen, n + 2 + 30, 6, rfl, hp3.keep s3, by omega, by decide, by decide, fun H4 i4 sx4 hp4 i40 i41 => ?_⟩
    obtain ⟨kv, kv1, kv2, _⟩ := atI_pick (ms := [.int 2, .int 3, .int 1, .int 4, .int 5, .int 0]) i40 i41
    obtain ⟨k, rfl, k5⟩ : ∃ k : Nat, kv = .int k ∧ k ≤ 5 := by
      simp only [List.mem_cons, List.not_mem_nil, or_false] at kv2
      rcases kv2 with e | e | e | e | e | e
      · exact ⟨2, e, by decide⟩
      · exact ⟨3, e, by decide⟩
      · exact ⟨1, e, by decide⟩
      · exact ⟨4, e, by decide⟩
      · exact ⟨5, e, by decide⟩
      · exact ⟨0, e, by decide⟩
    have hM4 := sx4 _ _ nMp (s3 _ _ hM)
    refine ⟨L3, _, i4, .int k, rfl, rfl, .inl (.inl (sx4 _ _ nL3p upd_same)), kv1, k, rfl, M, _, rfl, .inl (.inl hM4), fun S nS => ?_⟩
    rw [cutTake, ← List.map_take]
    have sx04 : SameX pen H H4 := ((sx02.trans s2.toX).trans sx3).trans (s3.toX.trans sx4)
    have lcs : (ys.take k).length ≤ 5 := by rw [List.length_take]; omega
    have cabc : ∀ c ∈ ys.take k, c < 1114112 := fun c hc => abc_low (my c (List.mem_of_mem_take hc))
    generalize hcs : ys.take k = cs at *
    have s5 := same_upd (o := .lst (cs.map sg1)) nS
    obtain ⟨po4, hpo4⟩ := hp4.some
    have nSp : S ≠ pen := (ne_of_none hpo4 nS).symm
    have hS5 : (upd H4 S (.lst (cs.map sg1))) S = some (.lst (cs.map sg1)) := upd_same
    have hp5 := hp4.keep s5
    have sx05 := sx04.trans s5.toX
    generalize hH5 : upd H4 S (.lst (cs.map sg1)) = H5 at *
    -- words
    refine fun d nd => ?_
    have s6 := same_upd (o := .dK []) nd
    obtain ⟨po5, hpo5⟩ := hp5.some
    have ndp : d ≠ pen := (ne_of_none hpo5 nd).symm
    have nSd : S ≠ d := ne_of_none hS5 nd
    have ndH : ∀ b o, b ≠ pen → H b = some o → b ≠ d := fun b o nb hb => ne_of_none (sx05 _ _ nb hb) nd
    refine ⟨.ref S, rfl, S, _, rfl, .inl (.inl (s6 _ _ hS5)), ?_⟩
    refine for_it (walk_enum (xs := cs.map sg1)) (fun i σ H' => ∃ y5 y6, σ = [some (.ref pen), some (.int la), some (.int mo), some (.ref S), some (.ref d), y5, y6] ∧ SameX pen H H' ∧ PenAt H' pen (n + 40 + 30 * i) ∧ H' S = some (.lst (cs.map sg1)) ∧
      ∃ ks : Ks, H' d = some (.dK (dkv ks)) ∧ (ks.map (·.1)).Nodup ∧ ks.length ≤ i ∧ (∀ p ∈ ks, p.2.length ≤ 6 ∧ ∀ c ∈ p.2, c ∈ cs) ∧ (∀ c ∈ cs.take i, c ∈ ks.map (·.1)) ∧ ∀ c ∈ ks.map (·.1), c ∈ cs) ?_ (fun i σ H' _ h => by obtain ⟨_, _, _, _, _, h, _⟩ := h; exact .inl (.inl h)) ?_ ?_
    · exact ⟨_, _, rfl, sx05.trans s6.toX, (hp5.keep s6).mono (by omega), s6 _ _ hS5, [], upd_same, List.nodup_nil, Nat.le_refl _, fun p hp => (by cases hp), fun c hc => (by simp at hc), fun c hc => (by simp at hc)⟩
    · rintro i x σ H6 H7 hi ⟨y5, y6, rfl, sx6, hp6, hS6, ks, hd6, nk, lk, wk, kk, kc2⟩ ⟨T, u1, u2, rfl, nT, rfl, e1, e2⟩
      rw [List.length_map] at hi
      have e2 : (cs.map sg1)[i]? = some u2 := e2
      rw [List.getElem?_map, List.getElem?_eq_getElem hi] at e2
      obtain rfl : sg1 cs[i] = u2 := Option.some.inj e2
      obtain rfl : V.int i = u1 := Option.some.inj e1
      have sT := same_upd (o := .tup [.int i, sg1 cs[i]]) nT
      refine ⟨T, _, rfl, .inl (.inl upd_same), rfl, _, _, rfl, _, _, rfl, rfl, ?_⟩
      have hpT := hp6.keep sT
      have hST := sT _ _ hS6
      have hdT := sT _ _ hd6
      have sxT := sx6.trans sT.toX
      generalize hHT : upd H6 T (.tup [.int i, sg1 cs[i]]) = HT at *
      -- text(pen, signs[layers * at:], take(pen, most))
      refine ⟨.ref pen, rfl, .ref S, rfl, .int la, rfl, .int i, rfl, _, _, rfl, rfl, .inl ⟨by omega, by omega⟩, _, rfl, S, _, rfl, .inl (.inl hST), fun Z nZ => ?_⟩
      obtain ⟨ds, ds1, ds2, ds3⟩ := cut_signs cs (some (la * (i : Int))) none
      have sZ := same_upd (o := .lst (cutV (cs.map sg1) (some (la * (i : Int))) none)) nZ
      obtain ⟨poT, hpoT⟩ := hpT.some
      have nZp : Z ≠ pen := (ne_of_none hpoT nZ).symm
      have hZ : (upd HT Z (.lst (cutV (cs.map sg1) (some (la * (i : Int))) none))) Z = some (.lst (ds.map sg1)) := by rw [upd_same, ds1]
      have hpZ := hpT.keep sZ
      have sxZ := sxT.trans sZ.toX
      have hSZ := sZ _ _ hST
      have hdZ := sZ _ _ hdT
      generalize hHZ : upd HT Z (.lst (cutV (cs.map sg1) (some (la * (i : Int))) none)) = HZ at *
      refine ⟨.ref pen, rfl, .int mo, rfl, pen, n + 40 + 30 * i, mo, rfl, hpZ, by omega, mo0, by omega, fun H8 v8 sx8 hp8 v80 v81 => ?_⟩
      obtain ⟨m, rfl⟩ := Int.eq_ofNat_of_zero_le v80
      refine ⟨pen, Z, ds, m, n + 40 + 30 * i + 1, rfl, hp8, by omega, nZp, .inl (.inl (sx8 _ _ nZp hZ)), by omega, by omega, fun H9 t sx9 hp9 lt mt => ?_⟩
      have sx89 := sx8.trans sx9
      have hd9 := sx89 _ _ ndp hdZ
      have hS9 := sx89 _ _ nSp hSZ
      refine ⟨.ref d, rfl, sg1 cs[i], rfl, d, _, rfl, DPut.k (k := kc cs[i]) hd9 (sz_lt (by unfold dkv; rw [List.length_map]; omega)), ?_⟩
      rw [dkv_put]
      refine ⟨_, _, rfl, ?_, ?_, ?_, putA ks cs[i] t, upd_same, putA_nodup nk, by have := putA_len ks cs[i] t; omega, fun p hp => ?_, fun c hc => ?_, fun c hc => ?_⟩
      · intro b o nb hb
        rw [upd_ne (ndH b o nb hb)]
        exact sx89 _ _ nb (sxZ _ _ nb hb)
      · exact (hp9.other (sameX_upd (a := d)) ndp.symm).mono (by omega)
      · rw [upd_ne nSd]; exact hS9
      · rcases putA_mem hp with h | h
        · exact wk p h
        · subst h
          exact ⟨by show t.length ≤ 6; omega, fun c hc => ds2 c (mt c hc)⟩
      · rw [List.take_add_one, List.getElem?_eq_getElem hi] at hc
        refine putA_has ?_
        rcases List.mem_append.mp hc with h | h
        · exact .inr (kk c h)
        · left
          simpa using h
      · rw [putA_keys] at hc
        split at hc
        · exact kc2 c hc
        · rcases List.mem_append.mp hc with h | h
          · exact kc2 c h
          · rw [List.mem_singleton] at h
            subst h
            exact List.getElem_mem hi
    · rintro σ H6 ⟨y5, y6, rfl, sx6, hp6, hS6, ks, hd6, nk, lk, wk, kk, kc2⟩
      rw [List.length_map] at lk kk hp6
      rw [List.take_length] at kk
      refine ⟨.ref pen, rfl, .ref S, rfl, .ref pen, rfl, pen, n + 40 + 30 * cs.length, 6, rfl, hp6, by omega, by decide, by decide, fun H7 v7 sx7 hp7 v70 v71 => ?_⟩
      obtain ⟨m, rfl⟩ := Int.eq_ofNat_of_zero_le v70
      refine ⟨pen, S, cs, m, n + 40 + 30 * cs.length + 1, rfl, hp7, by omega, nSp, .inl (.inl (sx7 _ _ nSp hS6)), by omega, by omega, fun H8 t sx8 hp8 lt mt => ?_⟩
      have sx68 := sx7.trans sx8
      refine ⟨.ref d, rfl, sz_le (by show 2 ≤ 1000000; decide), fun tt ntt => ?_⟩
      have st := same_upd (o := .tup [.str (sOf t), .ref d]) ntt
      refine q _ tt t ks ((sx6.trans sx68).trans st.toX) ((hp8.keep st).mono (by omega)) ⟨d, .inl (.inl upd_same), st _ _ (sx68 _ _ ndp hd6)⟩ ⟨⟨nk, by omega, fun p hp => (wk p hp).1, fun c hc => cabc c (kc2 c hc)⟩, by omega, fun p hp c hc => kk c ((wk p hp).2 c hc), fun c hc => kk c (mt c hc)⟩

/-! ### _law_book -/
abbrev s__law_book : Stmt := topS 57
theorem sc__law_book : FnScope ["_law_one", "_law_sign"] ["_law_one"] (defScope s__law_book) := ⟨rfl, rfl, rfl, by decide +kernel, rfl, by decide +kernel, by decide +kernel⟩
def spBook (K : PySem.W.Frag) : Sp := fun vs H Q _ => ∃ (t : Addr) (first : List Nat) (ks : Ks), vs = [.ref t] ∧ DrawnAt K H t first ks ∧ DictOK ks ∧ first.length ≤ 5 ∧ ∀ (H' : Hp) (p : Addr) (b : Bk), Same H H' → BookAt K H' p b → BkOK b → Q (.ref p) H'
theorem ok_law_book (F : Fun K "_law_book" "_law_book" s__law_book f fd) (B : Bi mg) : FnOk P w K mg base CX0 1 f fd ["_law_one"] (spBook K) := by
  refine F.ok sc__law_book (fun vs H Q E h => ?_) (fun cdv A outer s H vs Q E hr h => ?_)
  · obtain ⟨t, first, ks, rfl, _⟩ := h
    rfl
  · obtain ⟨t, first, ks, rfl, ⟨d, ht, hd⟩, ok, lf, q⟩ := h
    refine ⟨_, (pss_one (ps_ret (pe_tup (pa_cons (pe_ix (r := rIxT K) ix_tup (pv 0) pe_int (fun _ _ => rfl)) (pa_cons (pe_callTy call_tuple_of (by rfl) B.tuple (by decide +kernel) (pa_cons (pe_lc (own := [("_law_sign", 1)]) (g := _) (tt := tYes) rfl sc__law_book.nd (pi_list (pe_callB cr_sortedS (by rfl) B.sorted (by decide +kernel) (pa_cons (pe_callTy (call_listD rfl) (by rfl) B.list (by decide +kernel) (pa_cons (pe_ix (r := rIxT K) ix_tup (pv 0) pe_int (fun _ _ => rfl)) pa_nil)) pa_nil))) (blkOk_by (N := ["_law_one", "_law_sign"]) (sc := defScope s__law_book) (by decide +kernel)) (fun _ _ _ _ _ => (pg_name (i := 1) sc__law_book.nd rfl (.inl rfl))) (fun _ _ _ _ _ => pts_nil) (fun _ _ _ _ _ => (pe_tup (pa_cons (pv 1) (pa_cons (pe_dget (hu_of hr) (pe_ix (r := rIxT K) ix_tup (pv 0) pe_int (fun _ _ => rfl)) (pv 1) (fun _ _ => rfl)) pa_nil))))) pa_nil)) pa_nil))))), ?_⟩
    refine ⟨.ref t, rfl, t, _, 0, .str (sOf first), rfl, rfl, ht, atI_nat (j := 0) rfl, ?_⟩
    refine ⟨.ref t, rfl, t, _, 1, .ref d, rfl, rfl, ht, atI_nat (j := 1) rfl, d, _, rfl, .inl hd, fun L nL => ?_⟩
    have s1 := same_upd (o := .lst ((dkv ks).map fun kv => kV kv.1)) nL
    have eL : ((dkv ks).map fun kv => kV kv.1) = (ks.map fun p => sOf [p.1]).map V.str := by
      unfold dkv
      rw [List.map_map, List.map_map]; rfl
    refine ⟨L, ks.map fun p => sOf [p.1], rfl, .inl (.inl (by rw [upd_same, eL])), by rw [List.length_map]; have := ok.few; omega, fun zs Z pm _ nZ => ?_⟩
    have s2 := s1.trans (same_upd (o := .lst (zs.map V.str)) nZ)
    have hZ : (upd (upd H L (.lst ((dkv ks).map fun kv => kV kv.1))) Z (.lst (zs.map V.str))) Z = some (.lst (zs.map V.str)) := upd_same
    generalize hH2 : upd (upd H L (.lst ((dkv ks).map fun kv => kV kv.1))) Z (.lst (zs.map V.str)) = H2 at *
    -- the sorted keys, with their words
    obtain ⟨rs, rs1, rs2⟩ : ∃ rs : Ks, zs = rs.map (fun p => sOf [p.1]) ∧ rs.Perm ks := by
      have h1 : ∀ z, z ∈ zs → ∃ p, p ∈ ks ∧ sOf [p.1] = z := fun z hz => List.mem_map.mp (pm.mem_iff.mp hz)
      have pick : ∀ l : List Str, (∀ z, z ∈ l → ∃ p, p ∈ ks ∧ sOf [p.1] = z) → ∃ rs : Ks, l = rs.map (fun p => sOf [p.1]) ∧ ∀ p, p ∈ rs → p ∈ ks := by
        intro l
        induction l with
        | nil => intro _; exact ⟨[], rfl, fun p hp => by cases hp⟩
        | cons z l ih =>
          intro h
          obtain ⟨p, hp, e⟩ := h z List.mem_cons_self
          obtain ⟨rs, e2, h2⟩ := ih fun u hu => h u (List.mem_cons_of_mem _ hu)
          exact ⟨p :: rs, by rw [List.map_cons, e, e2], fun x hx => by
            rcases List.mem_cons.mp hx with h | h
            · rw [h]; exact hp
            · exact h2 x h⟩
      obtain ⟨rs, e, hm⟩ := pick zs h1
      refine ⟨rs, e, ?_⟩
      have nk : (ks.map fun p => sOf [p.1]).Nodup := by
        have e : (ks.map fun p => sOf [p.1]) = (ks.map (·.1)).map (fun c => sOf [c]) := by rw [List.map_map]; rfl
        rw [e]
        exact List.pairwise_map.mpr (List.Pairwise.imp (fun hne z => hne (kc_inj (congrArg Sum.inr z))) ok.nd)
      have nz : zs.Nodup := pm.nodup_iff.mpr nk
      rw [e] at nz pm
      have nr : rs.Nodup := List.Pairwise.of_map (fun p : Nat × List Nat => sOf [p.1]) (fun _ _ hne e => hne (congrArg (fun p : Nat × List Nat => sOf [p.1]) e)) nz
      have nks : ks.Nodup := List.Pairwise.of_map (fun p : Nat × List Nat => sOf [p.1]) (fun _ _ hne e => hne (congrArg (fun p : Nat × List Nat => sOf [p.1]) e)) nk
      refine (List.perm_ext_iff_of_nodup nr nks).mpr fun p => ⟨hm p, fun hp => ?_⟩
      have h3 : sOf [p.1] ∈ rs.map (fun p => sOf [p.1]) := pm.mem_iff.mpr (List.mem_map.mpr ⟨p, hp, rfl⟩)
      obtain ⟨p', hp', e'⟩ := List.mem_map.mp h3
      have e4 : p'.1 = p.1 := kc_inj (congrArg Sum.inr e')
      have : p' = p := by
        have a1 := dkv_val ok.nd (hm p' hp')
        have a2 := dkv_val ok.nd hp
        rw [e4, a2] at a1
        have a3 : sOf p.2 = sOf p'.2 := V.str.inj (Option.some.inj a1)
        have a4 := congrArg TL.tl a3
        rw [tl_sOf, tl_sOf] at a4
        exact Prod.ext e4 a4.symm
      rw [← this]; exact hp'
    have hd2 := s2 _ _ hd
    have ht2 := s2.seqT ht
    have lr : rs.length ≤ 5 := by rw [rs2.length_eq]; exact ok.few
    refine ⟨Z, rfl, ⟨_, .inl (.inl hZ)⟩, fun D nD => ?_⟩
    refine lc_acc (walk_list (xs := zs.map V.str)) nD (by rw [List.length_map, rs1, List.length_map]; omega) (fun i y H' => ∃ (r : Addr) (p : Nat × List Nat), y = .ref r ∧ r ≠ D ∧ rs[i]? = some p ∧ H' r = some (.tup [.str (sOf [p.1]), .str (sOf p.2)]))
      (fun i y H1 H2 h sx => by obtain ⟨r, p, e, n, h1, hp⟩ := h; exact ⟨r, p, e, n, h1, sx r _ n hp⟩) (fun H s3 => s3.seq (.inl (.inl hZ)))
      (fun i x H3 H' hi s3 hD hy R' N qq => ?_) (fun H3 ys s3 hD hl hacc => ?_)
    · obtain ⟨rfl, hx⟩ := hy
      rw [List.length_map, rs1, List.length_map] at hi
      rw [rs1, List.map_map, List.getElem?_map, List.getElem?_eq_getElem hi] at hx
      obtain rfl : V.str (sOf [rs[i].1]) = x := Option.some.inj hx
      obtain ⟨o, hD⟩ := hD
      have hm : rs[i] ∈ ks := rs2.mem_iff.mp (List.getElem_mem hi)
      have dg := DGet.k (k := kc rs[i].1) (s3 _ _ hd2)
      rw [dkv_val ok.nd hm] at dg
      refine ⟨rfl, yes_ok ⟨.str (sOf [rs[i].1]), rfl, .ref t, rfl, t, _, 1, .ref d, rfl, rfl, s3.seqT ht2, atI_nat (j := 1) rfl, .str (sOf [rs[i].1]), rfl, d, _, rfl, dg, sz_le (by show 2 ≤ 1000000; decide), fun r nr => ?_⟩⟩
      refine qq _ _ (same_upd nr) ⟨r, rs[i], rfl, fun e => ?_, List.getElem?_eq_getElem hi, upd_same⟩
      rw [e, hD] at nr
      cases nr
    · rw [List.length_map, rs1, List.length_map] at hl
      obtain ⟨as, e, hz⟩ := refs_of (ys := ys) (Pr := fun i r => ∃ p : Nat × List Nat, rs[i]? = some p ∧ H3 r = some (.tup [.str (sOf [p.1]), .str (sOf p.2)])) fun i hi => by
        obtain ⟨r, p, e, n, h1, hp⟩ := hacc i _ (List.getElem?_eq_getElem hi)
        exact ⟨r, by rw [List.getElem?_eq_getElem hi, e], p, h1, hp⟩
      have las : as.length = rs.length := by rw [← hl, e, List.length_map]
      refine ⟨D, _, rfl, .inl ⟨.inl (.inl hD), fun W nW => ?_⟩⟩
      have s4 := same_upd (o := .tup ys) nW
      refine ⟨sz_le (by show 2 ≤ 1000000; decide), fun tt ntt => ?_⟩
      have s5 := s4.trans (same_upd (o := .tup [.str (sOf first), .ref W]) ntt)
      have hW : (upd (upd H3 W (.tup ys)) tt (.tup [.str (sOf first), .ref W])) W = some (.tup ys) := by rw [upd_ne (ne_of_none upd_same ntt)]; exact upd_same
      refine q _ tt ⟨first, rs⟩ ((s2.trans s3).trans s5) ⟨W, as, .inl (.inl upd_same), .inl (.inl (by rw [hW, e])), las, fun i r hr => ?_⟩ ⟨?_, lr, fun p hp => ok.word p (rs2.mem_iff.mp hp), lf⟩
      · obtain ⟨p, p1, p2⟩ := hz i r hr
        exact ⟨p, p1, .inl (.inl (s5 _ _ p2))⟩
      · exact (rs2.map (·.1)).nodup_iff.mpr ok.nd
end
end LG

/-! ## W18 -/
set_option maxRecDepth 100000
set_option maxHeartbeats 4000000
namespace LG
open PySem PySem.Spec PyProof.Rows L2

theorem perm_keys {zs : List Str} {ks : Ks} (pm : zs.Perm (ks.map fun p => sOf [p.1])) : ∃ cs : List Nat, zs = cs.map (fun c => sOf [c]) ∧ cs.Perm (ks.map (·.1)) := by
  have e : (ks.map fun p => sOf [p.1]) = (ks.map (·.1)).map (fun c => sOf [c]) := by rw [List.map_map]; rfl
  rw [e] at pm
  generalize ks.map (·.1) = l at pm
  have back : ∀ (l : List Nat), (l.map (fun c => sOf [c])).map (fun z => (TL.tl z).headD 0) = l := fun l => by
    rw [List.map_map]
    conv => rhs; rw [← List.map_id l]
    refine List.map_congr_left fun c _ => ?_
    show (TL.tl (sOf [c])).headD 0 = c
    rw [tl_sOf]; rfl
  have pm2 := pm.map (fun z => (TL.tl z).headD 0)
  rw [back] at pm2
  refine ⟨_, ?_, pm2⟩
  rw [List.map_map]
  conv => lhs; rw [← List.map_id zs]
  refine List.map_congr_left fun z hz => ?_
  obtain ⟨c, _, rfl⟩ := List.mem_map.mp (pm.mem_iff.mp hz)
  show sOf [c] = sOf [(TL.tl (sOf [c])).headD 0]
  rw [tl_sOf]; rfl
theorem map_sg (cs : List Nat) : (cs.map (fun c => sOf [c])).map V.str = cs.map sg1 := by rw [List.map_map]; rfl
theorem key_val {ks : Ks} (nd : (ks.map (·.1)).Nodup) {c : Nat} (h : c ∈ ks.map (·.1)) : ∃ u, (c, u) ∈ ks ∧ valV (dkv ks) (kc c) = some (V.str (sOf u)) := by
  obtain ⟨p, hp, rfl⟩ := List.mem_map.mp h
  exact ⟨p.2, hp, dkv_val nd hp⟩
theorem keysL (ks : Ks) : ((dkv ks).map fun kv => kV kv.1) = (ks.map fun p => sOf [p.1]).map V.str := by
  unfold dkv
  rw [List.map_map, List.map_map]; rfl
/-- all but two stands -/
def SameY (a b : Addr) (H H' : Hp) : Prop := ∀ c o, c ≠ a → c ≠ b → H c = some o → H' c = some o
theorem SameY.seqT {K : PySem.W.Frag} {H H' : Hp} {a b t : Addr} {xs : List V} (e : SameY a b H H') {ys : List V} (ha : H a = some (.lst ys)) {kv : List (Key × V)} (hb : H b = some (.dK kv)) (h : SqT K H t xs) : SqT K H' t xs := by
  rcases h with (h | ⟨o, h⟩) | h
  · exact .inl (.inl (e _ _ (fun z => by rw [z, ha] at h; cases h) (fun z => by rw [z, hb] at h; cases h) h))
  · exact .inl (.inr ⟨o, e _ _ (fun z => by rw [z, ha] at h; cases h) (fun z => by rw [z, hb] at h; cases h) h⟩)
  · exact .inr h
theorem cutS_of (l : List Nat) (lo hi : Option Int) : ∃ u, cutS (sOf l) lo hi = sOf u ∧ u.length ≤ l.length := by
  refine ⟨_, rfl, ?_⟩
  have := cutS_length (sOf l) lo hi
  rw [sOf_len] at this
  exact Nat.le_trans (by
    show _ ≤ (cutS (sOf l) lo hi).length
    unfold cutS Str.length; simp) this
theorem cutS6 (l : List Nat) : ∃ u, cutS (sOf l) none (some 6) = sOf u ∧ u.length ≤ 6 := by
  refine ⟨_, rfl, ?_⟩
  rw [List.length_take]
  have h : HT.sIx (sOf l).length (sOf l).length (some 6) ≤ 6 := by
    have := HT.sIx_nat (sOf l).length (sOf l).length 6
    rw [show ((6 : Nat) : Int) = (6 : Int) from rfl] at this
    rw [this]; exact Nat.min_le_left _ _
  omega
theorem sOf_add (a b : List Nat) : sOf a ++ sOf b = sOf (a ++ b) := TL.ext_tl (by rw [TL.tl_append, tl_sOf, tl_sOf, tl_sOf])
theorem dpAll_strs {K : PySem.W.Frag} {H : Hp} : ∀ zs : List Str, DpAll K H (zs.map V.str) (zs.map PyData.str)
  | [] => .nil
  | z :: zs => .cons (.str z) (dpAll_strs zs)

theorem shaped_strs (cs : List Nat) (low : ∀ c ∈ cs, c < 1114112) : SeqAt.shaped (.list ((cs.map fun c => sOf [c]).map PyData.str)) = true := by
  have h1 : PyData.canLayAll0 ((cs.map fun c => sOf [c]).map PyData.str) = true ∧ PyData.depthAll ((cs.map fun c => sOf [c]).map PyData.str) = 0 := by
    induction cs with
    | nil => exact ⟨by simp [PyData.canLayAll0], by simp [PyData.depthAll]⟩
    | cons c cs ih =>
      obtain ⟨a, b⟩ := ih fun x hx => low x (List.mem_cons_of_mem _ hx)
      have hc := low c List.mem_cons_self
      simp only [List.map_cons, PyData.canLayAll0, PyData.depthAll, PyData.canLay0, PyData.depth]
      refine ⟨?_, by rw [b]; rfl⟩
      rw [a, Bool.and_true]
      unfold PyData.strOk sOf
      simp only [List.all_toArray', Array.all_eq_true]
      simpa using hc
  unfold SeqAt.shaped
  simp only [PyData.canLay0, PyData.depth, h1.1, h1.2]
  rfl

section
variable {P : Program} {w : World} {K : PySem.W.Frag} {mg : Str → Option Value} {base : Heap} {f : Addr} {fd : FuncData}

/-! ### _law_spoiled -/
structure CSpoil (P : Program) (w : World) (K : PySem.W.Frag) (mg : Str → Option Value) (base : Heap) : Prop where
  _law_take : Cal P w K mg base "_law_take" ["_law_pen_here", "_law_size"] spTake 1
  _law_text : Cal P w K mg base "_law_text" ["_law_pen_here", "_law_signs", "_law_many"] (spText K) 2
abbrev s__law_spoiled : Stmt := topS 56
theorem sc__law_spoiled : FnScope ["_law_pen_here", "_law_one", "_law_signs", "_law_sign", "_law_text_here", "_law_spot", "_law_more", "_law_rest"] ["_law_pen_here", "_law_one"] (defScope s__law_spoiled) := ⟨rfl, rfl, rfl, by decide +kernel, rfl, by decide +kernel, by decide +kernel⟩
def spSpoil (K : PySem.W.Frag) : Sp := fun vs H Q _ => ∃ (pen t d : Addr) (first : List Nat) (ks : Ks) (n : Nat), vs = [.ref pen, .ref t] ∧ PenAt H pen n ∧ n ≤ 800000 ∧ SqT K H t [.str (sOf first), .ref d] ∧ H d = some (.dK (dkv ks)) ∧ DictOK ks ∧
  ∀ (H' : Hp) (ks' : Ks), SameY pen d H H' → PenAt H' pen (n + 100) → H' d = some (.dK (dkv ks')) → DictOK ks' → Q .non H'
theorem ok_law_spoiled (F : Fun K "_law_spoiled" "_law_spoiled" s__law_spoiled f fd) (B : Bi mg) (C : CSpoil P w K mg base) : FnOk P w K mg base CX0 3 f fd ["_law_pen_here", "_law_one"] (spSpoil K) := by
  refine F.ok sc__law_spoiled (fun vs H Q E h => ?_) (fun cdv A outer s H vs Q E hr h => ?_)
  · obtain ⟨pen, t, d, first, ks, n, rfl, _⟩ := h
    rfl
  · obtain ⟨pen, t, d, first, ks, n, rfl, hp, hn, ht, hd, ok, q⟩ := h
    refine ⟨_, (pss_cons (ps_set (i := 2) sc__law_spoiled.nd rfl (.inl rfl) (pe_callB cr_sortedS (by rfl) B.sorted (by decide +kernel) (pa_cons (pe_callTy (call_listD rfl) (by rfl) B.list (by decide +kernel) (pa_cons (pe_ix (r := rIxT K) ix_tup (pv 1) pe_int (fun _ _ => rfl)) pa_nil)) pa_nil)))
      (pss_one (ps_if (pt_cmpR (op_neD hr.units) (pv 2) (pe_lst pa_nil) (nomark _))
        (pss_cons (ps_set (i := 3) sc__law_spoiled.nd rfl (.inl rfl) (pe_ix (r := rIxL K) ix_list (pv 2) (pe_cal C._law_take hr (by decide) (pa_cons (pv 0) (pa_cons (pe_callB (r := rLenSeq K) call_len_seq (by rfl) B.len (by decide +kernel) (pa_cons (pv 2) pa_nil)) pa_nil))) (fun _ _ => rfl)))
        (pss_cons (ps_set (i := 4) sc__law_spoiled.nd rfl (.inl rfl) (pe_dget (hu_of hr) (pe_ix (r := rIxT K) ix_tup (pv 1) pe_int (fun _ _ => rfl)) (pv 3) (fun _ _ => rfl)))
        (pss_cons (ps_set (i := 5) sc__law_spoiled.nd rfl (.inl rfl) (pe_cal C._law_take hr (by decide) (pa_cons (pv 0) (pa_cons (pe_op op_add (pe_callB call_len_str (by rfl) B.len (by decide +kernel) (pa_cons (pv 4) pa_nil)) pe_int) pa_nil))))
        (pss_cons (ps_set (i := 6) sc__law_spoiled.nd rfl (.inl rfl) (pe_cal C._law_text hr (by decide) (pa_cons (pv 0) (pa_cons (pv 2) (pa_cons (pe_cal C._law_take hr (by decide) (pa_cons (pv 0) (pa_cons pe_int pa_nil))) pa_nil)))))
        (pss_cons (ps_set (i := 7) sc__law_spoiled.nd rfl (.inl rfl) (pe_slice sl_str (pv 4) (po_some (pe_op op_add (pv 5) (pe_cal C._law_take hr (by decide) (pa_cons (pv 0) (pa_cons pe_int pa_nil))))) po_none))
        (pss_one (ps_dput (hu_of hr) (pe_ix (r := rIxT K) ix_tup (pv 1) pe_int (fun _ _ => rfl)) (pv 3) (pe_slice sl_str (pe_op op_add_str (pe_op op_add_str (pe_slice sl_str (pv 4) po_none (po_some (pv 5))) (pv 6)) (pv 7)) po_none (po_some pe_int)) rfl)))))))
        pss_nil))), ?_⟩
    obtain ⟨z, c, fo, hpen, _⟩ := _root_.id hp
    have ndp : d ≠ pen := fun e => by rw [e, hpen] at hd; cases hd
    have tt : ∀ {H' : Hp}, SameX pen H H' → SqT K H' t [.str (sOf first), .ref d] := fun sx => SameY.seqT (a := pen) (b := d) (fun c o na _ hc => sx c o na hc) hpen hd ht
    refine ⟨.ref t, rfl, t, _, 1, .ref d, rfl, rfl, ht, atI_nat (j := 1) rfl, d, _, rfl, .inl hd, fun L nL => ?_⟩
    have s1 := same_upd (o := .lst ((dkv ks).map fun kv => kV kv.1)) nL
    refine ⟨L, ks.map fun p => sOf [p.1], rfl, .inl (.inl (by rw [upd_same, keysL])), by rw [List.length_map]; have := ok.few; omega, fun zs Z pm _ nZ => ?_⟩
    obtain ⟨cs, rfl, pc⟩ := perm_keys pm
    have s2 := s1.trans (same_upd (o := .lst ((cs.map fun c => sOf [c]).map V.str)) nZ)
    have hZ : (upd (upd H L (.lst ((dkv ks).map fun kv => kV kv.1))) Z (.lst ((cs.map fun c => sOf [c]).map V.str))) Z = some (.lst (cs.map sg1)) := by rw [upd_same, map_sg]
    generalize hH2 : upd (upd H L (.lst ((dkv ks).map fun kv => kV kv.1))) Z (.lst ((cs.map fun c => sOf [c]).map V.str)) = H2 at *
    have nZp : Z ≠ pen := (ne_of_none (s1 _ _ hpen) nZ).symm
    have nZd : Z ≠ d := (ne_of_none (s1 _ _ hd) nZ).symm
    have hd2 := s2 _ _ hd
    have hp2 := hp.keep s2
    have lcs : cs.length ≤ 5 := by rw [pc.length_eq, List.length_map]; exact ok.few
    refine ⟨.ref Z, rfl, ?_⟩
    refine ⟨sz_le (by show 0 ≤ 1000000; decide), fun Y nY => ?_⟩
    have s3 := s2.trans (same_upd (o := .lst []) nY)
    have hZ3 : (upd H2 Y (.lst [])) Z = some (.lst (cs.map sg1)) := same_upd nY _ _ hZ
    have hd3 := s3 _ _ hd
    have hp3 := hp.keep s3
    have nY3 : (upd H2 Y (.lst [])) Y = some (.lst []) := upd_same
    generalize hH3 : upd H2 Y (.lst []) = H3 at *
    refine ⟨.list ((cs.map fun c => sOf [c]).map PyData.str), .list [], .lst (.inl (.inl (by rw [hZ3, ← map_sg]))) (dpAll_strs _), .lst (.inl (.inl nY3)) .nil, ?_, rfl, ?_⟩
    · have low : ∀ c ∈ cs, c < 1114112 := fun c hc => ok.low c (pc.mem_iff.mp hc)
      exact shaped_strs cs low
    cases cs with
    | nil =>
      refine ⟨false, congrArg V.bl (by simp [PyData.eqv, PyData.eqvAll]), iteF ?_⟩
      exact q H3 ks (fun c o _ _ hc => s3 _ _ hc) (hp3.mono (by omega)) hd3 ok
    | cons c0 cs' =>
      refine ⟨true, congrArg V.bl (by simp [PyData.eqv, PyData.eqvAll]), iteT ?_⟩
      generalize hcs : c0 :: cs' = cs at *
      have c1 : 1 ≤ cs.length := by rw [← hcs]; exact Nat.succ_pos _
      refine ⟨.ref Z, rfl, .ref pen, rfl, .ref Z, rfl, Z, _, rfl, .inl (.inl (.inl hZ3)), pen, n, ((cs.map sg1).length : Nat), rfl, hp3, by omega, by rw [List.length_map]; omega, by rw [List.length_map]; omega, fun H4 v sx4 hp4 v0 v1 => ?_⟩
      rw [List.length_map] at v1
      have hv : v.toNat < cs.length := by omega
      have hZ4 := sx4 _ _ nZp hZ3
      have hd4 := sx4 _ _ ndp hd3
      have sx04 := s3.toX.trans sx4
      refine ⟨Z, _, v, sg1 cs[v.toNat], rfl, rfl, .inl (.inl hZ4), at_of (j := v.toNat) (by omega) (by rw [List.getElem?_map, List.getElem?_eq_getElem hv]; rfl), ?_⟩
      have hkey : cs[v.toNat] ∈ ks.map (·.1) := pc.mem_iff.mp (List.getElem_mem hv)
      generalize hc' : cs[v.toNat] = c' at *
      obtain ⟨u, hu1, hu2⟩ := key_val ok.nd hkey
      have dg := DGet.k (k := kc c') hd4
      rw [hu2] at dg
      refine ⟨.ref t, rfl, t, _, 1, .ref d, rfl, rfl, tt sx04, atI_nat (j := 1) rfl, sg1 c', rfl, d, _, rfl, dg, ?_⟩
      have lu := ok.word _ hu1
      have lu : u.length ≤ 6 := lu
      refine ⟨.ref pen, rfl, .str (sOf u), rfl, sOf u, rfl, sz_le (by rw [sOf_len]; omega), _, _, rfl, rfl, pen, n + 1, (sOf u).length + 1, rfl, hp4, by omega, by rw [sOf_len]; omega, by rw [sOf_len]; omega, fun H5 sp sx5 hp5 sp0 sp1 => ?_⟩
      have sx05 := sx04.trans sx5
      refine ⟨.ref pen, rfl, .ref Z, rfl, .ref pen, rfl, pen, n + 2, 2, rfl, hp5, by omega, by decide, by decide, fun H6 m6 sx6 hp6 m60 m61 => ?_⟩
      obtain ⟨m, rfl⟩ := Int.eq_ofNat_of_zero_le m60
      have hZ6 := sx6 _ _ nZp (sx5 _ _ nZp hZ4)
      refine ⟨pen, Z, cs, m, n + 3, rfl, hp6, by omega, nZp, .inl (.inl hZ6), by omega, by omega, fun H7 mo sx7 hp7 lmo _ => ?_⟩
      have sx07 := (sx05.trans sx6).trans sx7
      refine ⟨.str (sOf u), rfl, .int sp, rfl, .ref pen, rfl, pen, n + 23, 2, rfl, hp7, by omega, by decide, by decide, fun H8 x8 sx8 hp8 _ _ => ?_⟩
      have sx08 := sx07.trans sx8
      refine ⟨_, _, rfl, rfl, _, rfl, sOf u, rfl, sz_le (by rw [sOf_len]; omega), ?_⟩
      obtain ⟨re, e1, l1⟩ := cutS_of u (some (sp + x8)) none
      obtain ⟨be, e2, l2⟩ := cutS_of u none (some sp)
      refine ⟨.str (sOf u), rfl, .int sp, rfl, sp, rfl, sOf u, rfl, sz_le (by rw [sOf_len]; omega), ?_⟩
      rw [e2]
      refine ⟨_, rfl, _, _, rfl, rfl, sz_le (by rw [sOf_len, sOf_len]; omega), ?_⟩
      rw [sOf_add]
      refine ⟨.str (sOf re), by rw [← e1]; rfl, _, _, rfl, rfl, sz_le (by rw [sOf_len, sOf_len, List.length_append]; omega), ?_⟩
      rw [sOf_add]
      refine ⟨6, rfl, _, rfl, sz_le (by rw [sOf_len, List.length_append, List.length_append]; omega), ?_⟩
      obtain ⟨fi, e3, l3⟩ := cutS6 (be ++ mo ++ re)
      rw [e3]
      have hd8 := sx08 _ _ ndp hd
      refine ⟨.ref t, rfl, t, _, 1, .ref d, rfl, rfl, tt sx08, atI_nat (j := 1) rfl, sg1 c', rfl, d, _, rfl, DPut.k (k := kc c') hd8 (sz_lt (by unfold dkv; rw [List.length_map]; have := ok.few; omega)), ?_⟩
      rw [dkv_put]
      refine q _ (putA ks c' fi) (fun b o nb nd hb => ?_) ((hp8.other (sameX_upd (a := d)) ndp.symm).mono (by omega)) upd_same ⟨putA_nodup ok.nd, by rw [putA_len_in hkey]; exact ok.few, fun p hp => ?_, fun b hb => ?_⟩
      · rw [upd_ne nd]
        exact sx08 _ _ nb hb
      · rcases putA_mem hp with h | h
        · exact ok.word p h
        · subst h
          exact l3
      · rw [putA_keys, if_pos hkey] at hb
        exact ok.low b hb
end
end LG

/-! ## W19 -/
set_option maxRecDepth 100000
set_option maxHeartbeats 4000000
namespace LG
open PySem PySem.Spec PyProof.Rows L2

/-! ### letters and the lists that name them -/
abbrev Nms := List (Nat × Addr × List Nat)
def nkv (nk : Nms) : List (Key × V) := nk.map fun p => (kc p.1, V.ref p.2.1)
def NkTot (nk : Nms) : Nat := (nk.map fun p => p.2.2.length).sum
theorem nkv_snoc (nk : Nms) (c : Nat) (a : Addr) (l : List Nat) : nkv (nk ++ [(c, a, l)]) = nkv nk ++ [(kc c, V.ref a)] := by unfold nkv; rw [List.map_append]; rfl
theorem nkTot_snoc (nk : Nms) (c : Nat) (a : Addr) (l : List Nat) : NkTot (nk ++ [(c, a, l)]) = NkTot nk + l.length := by
  unfold NkTot
  rw [List.map_append, List.sum_append]
  simp
theorem nkv_any {nk : Nms} {c : Nat} (h : c ∉ nk.map (·.1)) : (nkv nk).any (fun kv => decide (kv.1 = kc c)) = false := by
  rw [List.any_eq_false]
  intro x hx
  obtain ⟨p, hp, rfl⟩ := List.mem_map.mp hx
  intro e
  have e2 : kc p.1 = kc c := of_decide_eq_true e
  exact h (List.mem_map.mpr ⟨p, hp, kc_inj e2⟩)
theorem nkv_put_new {nk : Nms} {c : Nat} (h : c ∉ nk.map (·.1)) (a : Addr) (l : List Nat) : putK (nkv nk) (kc c) (V.ref a) = nkv (nk ++ [(c, a, l)]) := by
  unfold putK
  rw [nkv_any h, nkv_snoc]
  rfl
theorem nkv_put_old {nk : Nms} {c : Nat} (h : c ∉ nk.map (·.1)) (a a' : Addr) (l l' : List Nat) : putK (nkv (nk ++ [(c, a, l)])) (kc c) (V.ref a') = nkv (nk ++ [(c, a', l')]) := by
  unfold putK
  rw [nkv_snoc, nkv_snoc, List.any_append, nkv_any h]
  have e1 : ([(kc c, V.ref a)] : List (Key × V)).any (fun kv => decide (kv.1 = kc c)) = true := by
    show (decide (kc c = kc c) || false) = true
    rw [decide_eq_true rfl]; rfl
  rw [e1, if_pos (by rfl), List.map_append]
  congr 1
  · conv => rhs; rw [← List.map_id (nkv nk)]
    refine List.map_congr_left fun x hx => ?_
    obtain ⟨p, hp, rfl⟩ := List.mem_map.mp hx
    rw [if_neg (fun e => h (List.mem_map.mpr ⟨p, hp, kc_inj e⟩))]
    rfl
  · show [if kc c = kc c then (kc c, V.ref a') else (kc c, V.ref a)] = _
    rw [if_pos rfl]
theorem nkv_nodup {nk : Nms} (h : (nk.map (·.1)).Nodup) : ((nkv nk).map (·.1)).Nodup := by
  unfold nkv
  rw [List.map_map]
  have e : nk.map ((fun x : Key × V => x.1) ∘ fun p : Nat × Addr × List Nat => (kc p.1, V.ref p.2.1)) = (nk.map (·.1)).map kc := by rw [List.map_map]; rfl
  rw [e]
  exact List.pairwise_map.mpr (List.Pairwise.imp (fun hne z => hne (kc_inj z)) h)
theorem nkv_val {nk : Nms} (h : (nk.map (·.1)).Nodup) {p : Nat × Addr × List Nat} (hp : p ∈ nk) : valV (nkv nk) (kc p.1) = some (V.ref p.2.1) :=
  val_nodup (nkv_nodup h) (kc p.1, V.ref p.2.1) (List.mem_map.mpr ⟨p, hp, rfl⟩)
theorem nkTot_take {nk : Nms} {i : Nat} (h : i < nk.length) : NkTot (nk.take (i + 1)) = NkTot (nk.take i) + nk[i].2.2.length := by
  rw [List.take_add_one, List.getElem?_eq_getElem h]
  exact nkTot_snoc _ _ _ _
theorem nkTot_le (nk : Nms) (i : Nat) : NkTot (nk.take i) ≤ NkTot nk := by
  conv => rhs; rw [← List.take_append_drop i nk]
  unfold NkTot
  rw [List.map_append, List.sum_append]
  omega
theorem nk_len_le {nk : Nms} {p : Nat × Addr × List Nat} (hp : p ∈ nk) : p.2.2.length ≤ NkTot nk := by
  induction nk with
  | nil => cases hp
  | cons q r ih =>
    have e : NkTot (q :: r) = q.2.2.length + NkTot r := rfl
    rcases List.mem_cons.mp hp with h | h
    · rw [e, h]; omega
    · have := ih h
      omega
/-- the lists stand -/
def NkAt (H : Hp) (pen R : Addr) (nk : Nms) : Prop := ∀ p, p ∈ nk → p.2.1 ≠ pen ∧ p.2.1 ≠ R ∧ H p.2.1 = some (.lst (p.2.2.map sg1)) ∧ ∀ c ∈ p.2.2, c < 1114112
theorem NkAt.keep {H H' : Hp} {pen R : Addr} {nk : Nms} (h : NkAt H pen R nk) (e : ∀ b ys, b ≠ pen → b ≠ R → H b = some (.lst ys) → H' b = some (.lst ys)) : NkAt H' pen R nk := fun p hp => by
  obtain ⟨h1, h2, h3, h4⟩ := h p hp
  exact ⟨h1, h2, e _ _ h1 h2 h3, h4⟩
theorem NkAt.same {H H' : Hp} {pen R : Addr} {nk : Nms} (h : NkAt H pen R nk) (e : Same H H') : NkAt H' pen R nk := h.keep fun b ys _ _ hb => e _ _ hb
theorem NkAt.sameX {H H' : Hp} {pen R : Addr} {nk : Nms} (h : NkAt H pen R nk) (e : SameX pen H H') : NkAt H' pen R nk := h.keep fun b ys n _ hb => e _ _ n hb
theorem NkAt.dict {H : Hp} {pen R N : Addr} {nk : Nms} {o : HO} (h : NkAt H pen R nk) (hN : ∀ ys, H N ≠ some (.lst ys)) : NkAt (upd H N o) pen R nk := h.keep fun b ys _ _ hb => by
  rw [upd_ne (fun e => hN ys (by rw [← e]; exact hb))]
  exact hb
theorem join_list (ts : List (List Nat)) : Txt.join (sOf []) (ts.map sOf) = sOf ts.flatten := by
  rw [TL.join_eq]
  refine TL.ext_tl ?_
  rw [TL.tl_join, tl_sOf, tl_sOf, List.map_map]
  have e : ∀ l : List (List Nat), TL.joinL [] (l.map (TL.tl ∘ sOf)) = l.flatten := by
    intro l
    induction l with
    | nil => rfl
    | cons c r ih =>
      cases r with
      | nil =>
        show TL.tl (sOf c) = [c].flatten
        rw [tl_sOf]; simp
      | cons d r =>
        show TL.tl (sOf c) ++ ([] ++ TL.joinL [] _) = _
        rw [List.nil_append, tl_sOf]
        exact congrArg (c ++ ·) ih
  exact e ts
theorem short_sum (ts : List (List Nat)) (h : ∀ t ∈ ts, t.length ≤ 1) : ((ts.map sOf).map (·.length)).sum ≤ ts.length ∧ ts.flatten.length ≤ ts.length := by
  induction ts with
  | nil => exact ⟨Nat.le_refl _, Nat.le_refl _⟩
  | cons t r ih =>
    obtain ⟨a, b⟩ := ih fun x hx => h x (List.mem_cons_of_mem _ hx)
    have ht := h t List.mem_cons_self
    rw [List.map_cons, List.map_cons, List.sum_cons, List.flatten_cons, List.length_append, List.length_cons, sOf_len]
    omega
theorem vals_strs (ts : List (List Nat)) : (ts.map sOf).map V.str = ts.map fun t => V.str (sOf t) := by rw [List.map_map]; rfl

section
variable {P : Program} {w : World} {K : PySem.W.Frag} {mg : Str → Option Value} {base : Heap} {f : Addr} {fd : FuncData}

abbrev s__law_named : Stmt := topS 55
theorem sc__law_named : FnScope ["_law_pen_here", "_law_one", "_law_rest", "_law_same", "_law_names", "_law_spare", "_law_sign", "_law_more", "_law_fresh", "_law_name", "_law_text_here", "_law_first", "_law_k", "_law_letter"] ["_law_pen_here", "_law_one"] (defScope s__law_named) := ⟨rfl, rfl, rfl, by decide +kernel, rfl, by decide +kernel, by decide +kernel⟩
def spNamed (K : PySem.W.Frag) : Sp := fun vs H Q _ => ∃ (pen t : Addr) (first : List Nat) (ks : Ks) (n : Nat), vs = [.ref pen, .ref t] ∧ PenAt H pen n ∧ n ≤ 700000 ∧ DrawnAt K H t first ks ∧ BookOK first ks ∧
  ∀ (H' : Hp) (t' d' : Addr) (first' : List Nat) (ks' : Ks), SameX pen H H' → PenAt H' pen (n + 3000) → H d' = none → SqT K H' t' [.str (sOf first'), .ref d'] → H' d' = some (.dK (dkv ks')) → DictOK ks' → first'.length ≤ 5 → Q (.ref t') H'
theorem ok_law_named (F : Fun K "_law_named" "_law_named" s__law_named f fd) (B : Bi mg) (C : CFree P w K mg base) : FnOk P w K mg base CX0 3 f fd ["_law_pen_here", "_law_one"] (spNamed K) := by
  refine F.ok sc__law_named (fun vs H Q E h => ?_) (fun cdv A outer s H vs Q E hr h => ?_)
  · obtain ⟨pen, t, first, ks, n, rfl, _⟩ := h
    rfl
  · obtain ⟨pen, t, first, ks, n, rfl, hp, hn, ⟨d, ht, hd⟩, ok, q⟩ := h
    refine ⟨_, (pss_cons (ps_set (i := 2) sc__law_named.nd rfl (.inr rfl) (pe_cal C._law_mixed hr (by decide) (pa_cons (pv 0) (pa_cons (pe_callTy (call_list_txt rfl) (by rfl) B.list (by decide +kernel) (pa_cons pe_str pa_nil)) pa_nil))))
      (pss_cons (ps_set (i := 3) sc__law_named.nd rfl (.inl rfl) (pe_cal C._law_take hr (by decide) (pa_cons (pv 0) (pa_cons pe_int pa_nil))))
      (pss_cons (ps_set (i := 4) sc__law_named.nd rfl (.inr rfl) pe_dnewK)
      (pss_cons (ps_set (i := 5) sc__law_named.nd rfl (.inl rfl) (pe_op op_sub pe_int (pe_callB call_lenD (by rfl) B.len (by decide +kernel) (pa_cons (pe_ix (r := rIxT K) ix_tup (pv 1) pe_int (fun _ _ => rfl)) pa_nil))))
      (pss_cons (ps_for PassesOwn.never rfl (pi_list (pe_callB cr_sortedS (by rfl) B.sorted (by decide +kernel) (pa_cons (pe_callTy (call_listD rfl) (by rfl) B.list (by decide +kernel) (pa_cons (pe_ix (r := rIxT K) ix_tup (pv 1) pe_int (fun _ _ => rfl)) pa_nil)) pa_nil))) (pg_name (i := 6) sc__law_named.nd rfl (.inl rfl))
        (pss_cons (ps_set (i := 7) sc__law_named.nd rfl (.inl rfl) (pe_callB (call_min2 rfl) (by rfl) B.min (by decide +kernel) (pa_cons (pv 5) (pa_cons (pe_op op_mul (pe_callTy call_int1 (by rfl) B.int (by decide +kernel) (pa_cons (pe_cmpR op_gt (pv 3) pe_int (nomark _)) pa_nil)) (pe_cal C._law_take hr (by decide) (pa_cons (pv 0) (pa_cons pe_int pa_nil)))) pa_nil))))
        (pss_cons (ps_set (i := 5) sc__law_named.nd rfl (.inl rfl) (pe_op op_sub (pv 5) (pv 7)))
        (pss_cons (ps_dput (hu_of hr) (pv 4) (pv 6) (pe_lc (own := [("_law_k", 12)]) (g := _) (tt := tYes) rfl sc__law_named.nd (pi_range1 rfl B.range (pa_cons (pe_op op_add pe_int (pv 7)) pa_nil)) (blkOk_by (N := ["_law_pen_here", "_law_one", "_law_rest", "_law_same", "_law_names", "_law_spare", "_law_sign", "_law_more", "_law_fresh", "_law_name", "_law_text_here", "_law_first", "_law_k", "_law_letter"]) (sc := defScope s__law_named) (by decide +kernel)) (fun _ _ _ _ _ => (pg_name (i := 12) sc__law_named.nd rfl (.inl rfl))) (fun _ _ _ _ _ => pts_nil) (fun _ _ _ _ _ => (show PE _ _ (tBM0 K "list" _ _) from pe_bm0 PySem.F.plainAttrs_list PySem.F.slot_list_pop PySem.F.type_list_pop mt_pop (pv 2)))) rfl)
        (pss_one (ps_if (pt_cmpR op_eq (pv 3) pe_int (nomark _))
          (pss_one (ps_dput (hu_of hr) (pv 4) (pv 6) (pe_lst (pa_cons (pv 6) pa_nil)) rfl))
          pss_nil))))))
      (pss_cons (ps_set (i := 8) sc__law_named.nd rfl (.inl rfl) pe_dnewK)
      (pss_cons (ps_lock (ps_for PassesOwn.never rfl (pi_keys (pv 4)) (pg_name (i := 6) sc__law_named.nd rfl (.inl rfl))
        (pss_one (ps_for PassesOwn.never rfl (pi_list (pe_dget (hu_of hr) (pv 4) (pv 6) (fun _ _ => rfl))) (pg_name (i := 9) sc__law_named.nd rfl (.inl rfl))
          (pss_cons (ps_set (i := 10) sc__law_named.nd rfl (.inl rfl) (pe_cal C._law_mixed hr (by decide) (pa_cons (pv 0) (pa_cons (pe_callTy (call_list_txt rfl) (by rfl) B.list (by decide +kernel) (pa_cons (pe_dget (hu_of hr) (pe_ix (r := rIxT K) ix_tup (pv 1) pe_int (fun _ _ => rfl)) (pv 6) (fun _ _ => rfl)) pa_nil)) pa_nil))))
          (pss_one (ps_dput (hu_of hr) (pv 8) (pv 9) (pe_join pe_str (pe_lc (own := [("_law_letter", 13)]) (g := _) (tt := tYes) rfl sc__law_named.nd (pi_list (pv 10)) (blkOk_by (N := ["_law_pen_here", "_law_one", "_law_rest", "_law_same", "_law_names", "_law_spare", "_law_sign", "_law_more", "_law_fresh", "_law_name", "_law_text_here", "_law_first", "_law_k", "_law_letter"]) (sc := defScope s__law_named) (by decide +kernel)) (fun _ _ _ _ _ => (pg_name (i := 13) sc__law_named.nd rfl (.inl rfl))) (fun _ _ _ _ _ => pts_nil) (fun _ _ _ _ _ => (pe_cal C._law_text hr (by decide) (pa_cons (pv 0) (pa_cons (pe_dget (hu_of hr) (pv 4) (pv 13) (fun _ _ => rfl)) (pa_cons pe_int pa_nil))))))) rfl)))))))
      (pss_cons (ps_set (i := 11) sc__law_named.nd rfl (.inl rfl) (pe_cal C._law_mixed hr (by decide) (pa_cons (pv 0) (pa_cons (pe_callTy (call_list_txt rfl) (by rfl) B.list (by decide +kernel) (pa_cons (pe_ix (r := rIxT K) ix_tup (pv 1) pe_int (fun _ _ => rfl)) pa_nil)) pa_nil))))
      (pss_one (ps_ret (pe_tup (pa_cons (pe_join pe_str (pe_lc (own := [("_law_letter", 13)]) (g := _) (tt := tYes) rfl sc__law_named.nd (pi_list (pv 11)) (blkOk_by (N := ["_law_pen_here", "_law_one", "_law_rest", "_law_same", "_law_names", "_law_spare", "_law_sign", "_law_more", "_law_fresh", "_law_name", "_law_text_here", "_law_first", "_law_k", "_law_letter"]) (sc := defScope s__law_named) (by decide +kernel)) (fun _ _ _ _ _ => (pg_name (i := 13) sc__law_named.nd rfl (.inl rfl))) (fun _ _ _ _ _ => pts_nil) (fun _ _ _ _ _ => (pe_cal C._law_text hr (by decide) (pa_cons (pv 0) (pa_cons (pe_dget (hu_of hr) (pv 4) (pv 13) (fun _ _ => rfl)) (pa_cons pe_int pa_nil))))))) (pa_cons (pv 8) pa_nil))))))))))))), ?_⟩
    obtain ⟨z, c, fo, hpen, _⟩ := _root_.id hp
    have ndp : d ≠ pen := fun e => by rw [e, hpen] at hd; cases hd
    have tt : ∀ {H' : Hp}, SameX pen H H' → SqT K H' t [.str (sOf first), .ref d] := fun sx => SameY.seqT (a := pen) (b := d) (fun c o na _ hc => sx c o na hc) hpen hd ht
    -- rest
    refine ⟨.ref pen, rfl, abc, congrArg (fun z => [V.str z]) abc_eq, by decide, fun L1 nL1 => ?_⟩
    have nL1p : L1 ≠ pen := (ne_of_none hpen nL1).symm
    have s1 := same_upd (o := .lst (abc.map sg1)) nL1
    refine ⟨pen, L1, abc, n, rfl, hp.keep s1, by omega, nL1p, .inl (.inl upd_same), by decide, fun H2 R rs sx2 hp2 nR hR lrs mrs => ?_⟩
    have sx02 := s1.toX.trans sx2
    have nRp : R ≠ pen := (ne_of_none (s1 _ _ hpen) nR).symm
    have nR0 : H R = none := s1.free nR
    refine ⟨.ref pen, rfl, pen, n + 30, 3, rfl, hp2, by omega, by decide, by decide, fun H3 sa sx3 hp3 sa0 sa1 => ?_⟩
    have hR3 := sx3 _ _ nRp hR
    have sx03 := sx02.trans sx3
    -- names
    refine fun N nN => ?_
    have s4 := same_upd (o := .dK []) nN
    obtain ⟨po3, hpo3⟩ := hp3.some
    have nNp : N ≠ pen := (ne_of_none hpo3 nN).symm
    have nRN : R ≠ N := ne_of_none hR3 nN
    have nN0 : H N = none := sx03.free nNp nN
    have sx04 := sx03.trans s4.toX
    have hp4 := hp3.keep s4
    have hR4 := s4 _ _ hR3
    have hN4 : (upd H3 N (.dK [])) N = some (.dK (nkv [])) := upd_same
    generalize hH4 : upd H3 N (.dK []) = H4 at *
    have hd4 := sx04 _ _ ndp hd
    refine ⟨.ref t, rfl, t, _, 1, .ref d, rfl, rfl, tt sx04, atI_nat (j := 1) rfl, d, _, rfl, hd4, _, _, rfl, rfl, ?_⟩
    have lkv : (dkv ks).length = ks.length := by unfold dkv; rw [List.length_map]
    rw [lkv]
    refine ⟨.ref t, rfl, t, _, 1, .ref d, rfl, rfl, tt sx04, atI_nat (j := 1) rfl, d, _, rfl, .inl hd4, fun L2 nL2 => ?_⟩
    have s5 := same_upd (o := .lst ((dkv ks).map fun kv => kV kv.1)) nL2
    refine ⟨L2, ks.map fun p => sOf [p.1], rfl, .inl (.inl (by rw [upd_same, keysL])), by rw [List.length_map]; have := ok.few; omega, fun zs Z pm _ nZ => ?_⟩
    obtain ⟨cs, rfl, pc⟩ := perm_keys pm
    have s6 := s5.trans (same_upd (o := .lst ((cs.map fun c => sOf [c]).map V.str)) nZ)
    have hZ : (upd (upd H4 L2 (.lst ((dkv ks).map fun kv => kV kv.1))) Z (.lst ((cs.map fun c => sOf [c]).map V.str))) Z = some (.lst (cs.map sg1)) := by rw [upd_same, map_sg]
    obtain ⟨po4, hpo4⟩ := hp4.some
    have nZR : Z ≠ R := (ne_of_none (s5 _ _ hR4) nZ).symm
    have nZN : Z ≠ N := (ne_of_none (s5 _ _ hN4) nZ).symm
    have nZp : Z ≠ pen := (ne_of_none (s5 _ _ hpo4) nZ).symm
    generalize hH6 : upd (upd H4 L2 (.lst ((dkv ks).map fun kv => kV kv.1))) Z (.lst ((cs.map fun c => sOf [c]).map V.str)) = H6 at *
    have lcs : cs.length = ks.length := by rw [pc.length_eq, List.length_map]
    have few := ok.few
    have csn : cs.Nodup := pc.nodup_iff.mpr ok.nd
    have cslow : ∀ c ∈ cs, c < 1114112 := fun c hc => ok.low c (pc.mem_iff.mp hc)
    have sx06 := sx04.trans s6.toX
    have hp6 := hp4.keep s6
    have hR6 := s6 _ _ hR4
    have hN6 := s6 _ _ hN4
    refine ⟨Z, rfl, ⟨_, .inl (.inl hZ)⟩, ?_⟩
    refine for_it (walk_list (xs := cs.map sg1)) (fun i σ H' => ∃ (sp : Int) (y6 y7 y8 y9 y10 y11 : Option V), σ = [some (.ref pen), some (.ref t), some (.ref R), some (.int sa), some (.ref N), some (.int sp), y6, y7, y8, y9, y10, y11, none, none] ∧ SameX pen H H' ∧ PenAt H' pen (n + 40 + i) ∧ H' Z = some (.lst (cs.map sg1)) ∧
      ∃ (rs : List Nat) (nk : Nms), H' R = some (.lst (rs.map sg1)) ∧ H' N = some (.dK (nkv nk)) ∧ NkAt H' pen R nk ∧ nk.map (·.1) = cs.take i ∧ 0 ≤ sp ∧ (NkTot nk : Int) + sp = i + (5 - cs.length) ∧ rs.length + NkTot nk = 26 ∧ ∀ c ∈ rs, c < 1114112) ?_ (fun i σ H' _ h => by obtain ⟨_, _, _, _, _, _, _, _, _, _, h, _⟩ := h; exact .inl (.inl h)) ?_ ?_
    · exact ⟨_, _, _, _, _, _, _, rfl, sx06, hp6.mono (by omega), hZ, rs, [], hR6, hN6, fun p hp => (by cases hp), rfl, by omega, by rw [lcs]; show ((0 : Nat) : Int) + _ = _; omega, by show rs.length + 0 = 26; rw [lrs]; rfl, fun c hc => abc_low (mrs c hc)⟩
    · rintro i x σ H7 H7' hi ⟨sp, y6, y7, y8, y9, y10, y11, rfl, sx7, hp7, hZ7, rs, nk, hR7, hN7, na, nk1, sp0, tot, lr, low⟩ ⟨rfl, hx⟩
      rw [List.length_map] at hi
      rw [List.getElem?_map, List.getElem?_eq_getElem hi] at hx
      obtain rfl : sg1 cs[i] = x := Option.some.inj hx
      have ncs : cs[i] ∉ nk.map (·.1) := by
        rw [nk1]
        intro hm
        obtain ⟨j, hj, e⟩ := List.mem_iff_getElem.mp hm
        rw [List.getElem_take] at e
        rw [List.length_take] at hj
        exact List.pairwise_iff_getElem.mp csn j i (by omega) hi (by omega) e
      have clow := cslow _ (List.getElem_mem hi)
      have takeS : cs.take (i + 1) = cs.take i ++ [cs[i]] := by rw [List.take_add_one, List.getElem?_eq_getElem hi]; rfl
      generalize cs[i] = c' at *
      refine ⟨.int sp, rfl, .int sa, rfl, sa, 0, rfl, rfl, .inr ⟨_, rfl, .ref pen, rfl, pen, n + 40 + i, 2, rfl, hp7, by omega, by decide, by decide, fun H8 v sx8 hp8 v0 v1 => ?_⟩⟩
      have bb : ∃ β : Int, (if decide ((0 : Int) < sa) = true then (1 : Int) else 0) = β ∧ 0 ≤ β ∧ β ≤ 1 ∧ (sa = 0 → β = 0) := by
        by_cases h : (0 : Int) < sa
        · exact ⟨1, by rw [decide_eq_true h]; rfl, by decide, by decide, fun h2 => by omega⟩
        · exact ⟨0, by rw [decide_eq_false h]; rfl, by decide, by decide, fun _ => rfl⟩
      obtain ⟨β, eb, b0, b1, b2⟩ := bb
      rw [eb]
      refine ⟨_, _, rfl, rfl, .inl ⟨by omega, by omega⟩, _, _, rfl, ?_⟩
      have bm : ∃ μ : Nat, (if β * v < sp then β * v else sp) = (μ : Int) ∧ (μ : Int) ≤ sp ∧ μ ≤ 1 ∧ (sa = 0 → μ = 0) := by
        have q1 : 0 ≤ β * v ∧ β * v ≤ 1 ∧ (β = 0 → β * v = 0) := by
          have h1 : β = 0 ∨ β = 1 := by omega
          rcases h1 with h | h
          · subst h; exact ⟨by omega, by omega, fun _ => by omega⟩
          · subst h; exact ⟨by omega, by omega, fun z => by cases z⟩
        obtain ⟨q1, q2, q3⟩ := q1
        by_cases h : β * v < sp
        · rw [if_pos h]
          exact ⟨(β * v).toNat, by omega, by omega, by omega, fun z => by have := q3 (b2 z); omega⟩
        · rw [if_neg h]
          exact ⟨sp.toNat, by omega, by omega, by omega, fun z => by have := q3 (b2 z); omega⟩
      obtain ⟨μ, em, m1, m2, m3⟩ := bm
      rw [em]
      have hR8 := sx8 _ _ nRp hR7
      have hN8 := sx8 _ _ nNp hN7
      have hZ8 := sx8 _ _ nZp hZ7
      have na8 := na.sameX sx8
      have sx08 := sx7.trans sx8
      refine ⟨.int sp, rfl, .int μ, rfl, _, _, rfl, rfl, ?_⟩
      -- the pops
      refine ⟨.int μ, rfl, _, _, rfl, rfl, _, rfl, by omega, by omega, fun D nD => ?_⟩
      rw [show (1 + (μ : Int)).toNat = 1 + μ by omega]
      have nDR : D ≠ R := (ne_of_none hR8 nD).symm
      have nDN : D ≠ N := (ne_of_none hN8 nD).symm
      obtain ⟨po8, hpo8⟩ := hp8.some
      have nDp : D ≠ pen := (ne_of_none hpo8 nD).symm
      have nDZ : D ≠ Z := (ne_of_none hZ8 nD).symm
      refine lc_it (walk_range (lo := 0) (n := 1 + μ)) (fun j H' => (∀ b o, b ≠ R → b ≠ D → H8 b = some o → H' b = some o) ∧ ∃ rs2 acc : List Nat, H' R = some (.lst (rs2.map sg1)) ∧ H' D = some (.lst (acc.map sg1)) ∧ rs2.length + j = rs.length ∧ acc.length = j ∧
        (∀ c ∈ rs2, c < 1114112) ∧ ∀ c ∈ acc, c < 1114112) ?_ (fun _ _ _ _ => trivial) ?_ ?_
      · exact ⟨fun b o _ nb hb => by rw [upd_ne nb]; exact hb, rs, [], by rw [upd_ne nDR.symm]; exact hR8, upd_same, rfl, rfl, low, fun c h => by cases h⟩
      · rintro j x H9 H9' hj ⟨e9, rs2, acc, hR9, hD9, l2, la, lo2, loa⟩ ⟨rfl, ex⟩
        have p2 : rs2.length - 1 < rs2.length := by omega
        refine ⟨rfl, yes_ok ⟨.ref R, rfl, .inl ⟨rfl, _, .inl (.inl hR9)⟩, R, rs2.map sg1, sg1 rs2[rs2.length - 1], rfl, rfl, hR9, by rw [List.length_map, List.getElem?_map, List.getElem?_eq_getElem p2]; rfl, ?_⟩⟩
        refine ⟨acc.map sg1, by rw [upd_ne nDR]; exact hD9, sz_lt (by rw [List.length_map]; omega), fun b o n1 n2 hb => ?_, rs2.dropLast, acc ++ [rs2[rs2.length - 1]], ?_, ?_, ?_, ?_, fun c hc => lo2 c (by rw [List.dropLast_eq_take] at hc; exact List.mem_of_mem_take hc), fun c hc => ?_⟩
        · rw [upd_ne n2, upd_ne n1]; exact e9 b o n1 n2 hb
        · rw [upd_ne nDR.symm, upd_same, List.map_dropLast]
        · rw [upd_same, List.map_append]; rfl
        · rw [List.length_dropLast]; omega
        · rw [List.length_append, la]; rfl
        · rcases List.mem_append.mp hc with h | h
          · exact loa c h
          · rw [List.mem_singleton] at h
            subst h
            exact lo2 _ (List.getElem_mem p2)
      · rintro H9 ⟨e9, rs2, acc, hR9, hD9, l2, la, lo2, loa⟩
        have hN9 := e9 _ _ nRN.symm nDN.symm hN8
        have hZ9 := e9 _ _ nZR nDZ.symm hZ8
        have hp9 : PenAt H9 pen (n + 40 + i + 1) := by
          obtain ⟨z, c, f, h1, h2⟩ := hp8
          exact ⟨z, c, f, e9 _ _ nRp.symm nDp.symm h1, h2⟩
        have sx09 : SameX pen H H9 := fun b o nb hb => e9 b o (ne_of_none hb nR0) (ne_of_none (sx08 b o nb hb) nD) (sx08 b o nb hb)
        have na9 : NkAt H9 pen R nk := na8.keep fun b ys n1 n2 hb => e9 b _ n2 (ne_of_none hb nD) hb
        refine ⟨.ref N, rfl, sg1 c', rfl, N, _, rfl, DPut.k (k := kc c') hN9 (sz_lt (by unfold nkv; rw [List.length_map, ← List.length_map (f := fun p : Nat × Addr × List Nat => p.1), nk1, List.length_take]; omega)), ?_⟩
        rw [nkv_put_new ncs D acc]
        have sxA : SameX pen H (upd H9 N (.dK (nkv (nk ++ [(c', D, acc)])))) := fun b o nb hb => by rw [upd_ne (ne_of_none hb nN0)]; exact sx09 b o nb hb
        have noN : ∀ ys, H9 N ≠ some (.lst ys) := fun ys e => by rw [hN9] at e; cases e
        have hpA : PenAt (upd H9 N (.dK (nkv (nk ++ [(c', D, acc)])))) pen (n + 40 + i + 1) := hp9.other (sameX_upd (a := N)) nNp.symm
        have hZA : (upd H9 N (.dK (nkv (nk ++ [(c', D, acc)])))) Z = some (.lst (cs.map sg1)) := by rw [upd_ne nZN]; exact hZ9
        have hRA : (upd H9 N (.dK (nkv (nk ++ [(c', D, acc)])))) R = some (.lst (rs2.map sg1)) := by rw [upd_ne nRN]; exact hR9
        have naA : NkAt (upd H9 N (.dK (nkv (nk ++ [(c', D, acc)])))) pen R (nk ++ [(c', D, acc)]) := by
          intro p hp
          rcases List.mem_append.mp hp with h | h
          · exact (na9.dict noN) p h
          · rw [List.mem_singleton] at h
            subst h
            exact ⟨nDp, nDR, by show (upd H9 N _) D = _; rw [upd_ne nDN]; exact hD9, loa⟩
        have hNA : (upd H9 N (.dK (nkv (nk ++ [(c', D, acc)])))) N = some (.dK (nkv (nk ++ [(c', D, acc)]))) := upd_same
        generalize hHA : upd H9 N (.dK (nkv (nk ++ [(c', D, acc)]))) = HA at *
        refine ⟨.int sa, rfl, rfl, _, rfl, ite2 (fun h => ?_) (fun h => ?_)⟩
        · have sa00 : sa = 0 := V.int.inj (of_decide_eq_true h)
          refine ⟨sg1 c', rfl, sz_le (by show 1 ≤ 1000000; decide), fun D2 nD2 => ?_⟩
          have sB := same_upd (o := .lst [sg1 c']) nD2
          obtain ⟨poA, hpoA⟩ := hpA.some
          have nD2p : D2 ≠ pen := (ne_of_none hpoA nD2).symm
          have nD2R : D2 ≠ R := (ne_of_none hRA nD2).symm
          have nD2N : D2 ≠ N := (ne_of_none hNA nD2).symm
          have hNB := sB _ _ hNA
          refine ⟨.ref N, rfl, sg1 c', rfl, N, _, rfl, DPut.k (k := kc c') hNB (sz_lt (by unfold nkv; rw [List.length_map, List.length_append, ← List.length_map (f := fun p : Nat × Addr × List Nat => p.1), nk1, List.length_take]; show min i cs.length + 1 ≤ 1000000; omega)), ?_⟩
          rw [nkv_put_old ncs D D2 acc [c']]
          have noNB : ∀ ys, (upd HA D2 (.lst [sg1 c'])) N ≠ some (.lst ys) := fun ys e => by rw [hNB] at e; cases e
          have m0 := m3 sa00
          refine ⟨_, _, _, _, _, _, _, rfl, fun b o nb hb => ?_, ((hpA.keep sB).other (sameX_upd (a := N)) nNp.symm).mono (by omega), by rw [upd_ne nZN]; exact sB _ _ hZA, rs2, nk ++ [(c', D2, [c'])], by rw [upd_ne nRN]; exact sB _ _ hRA, upd_same, ?_, ?_, ?_, ?_, ?_, lo2⟩
          · rw [upd_ne (ne_of_none hb nN0)]
            exact sB _ _ (sxA b o nb hb)
          · intro p hp
            rcases List.mem_append.mp hp with h | h
            · exact ((naA.same sB).dict noNB) p (List.mem_append_left _ h)
            · rw [List.mem_singleton] at h
              subst h
              exact ⟨nD2p, nD2R, by show (upd _ N _) D2 = _; rw [upd_ne nD2N, upd_same]; rfl, fun c hc => by rw [List.mem_singleton] at hc; rw [hc]; exact clow⟩
          · rw [List.map_append, nk1, takeS]; rfl
          · omega
          · rw [nkTot_snoc]; show ((NkTot nk + 1 : Nat) : Int) + _ = _; omega
          · rw [nkTot_snoc]; show rs2.length + (NkTot nk + 1) = 26; omega
        · refine ⟨_, _, _, _, _, _, _, rfl, sxA, hpA.mono (by omega), hZA, rs2, nk ++ [(c', D, acc)], hRA, hNA, naA, ?_, ?_, ?_, ?_, lo2⟩
          · rw [List.map_append, nk1, takeS]; rfl
          · omega
          · rw [nkTot_snoc, la]; omega
          · rw [nkTot_snoc, la]; omega
    · rintro σ H7 ⟨sp, y6, y7, y8, y9, y10, y11, rfl, sx7, hp7, hZ7, rs, nk, hR7, hN7, na, nk1, sp0, tot, lr, low⟩
      rw [List.length_map] at nk1 tot hp7
      rw [List.take_length] at nk1
      have nkn : (nk.map (·.1)).Nodup := by rw [nk1]; exact csn
      have t5 : NkTot nk ≤ 5 := by omega
      have lnk : nk.length = cs.length := by rw [← nk1, List.length_map]
      refine fun Fd nFd => ?_
      have sF := same_upd (o := .dK []) nFd
      obtain ⟨po7, hpo7⟩ := hp7.some
      have nFp : Fd ≠ pen := (ne_of_none hpo7 nFd).symm
      have nFN : Fd ≠ N := (ne_of_none hN7 nFd).symm
      have nF0 : H Fd = none := sx7.free nFp nFd
      have sx8 := sx7.trans sF.toX
      have hp8 := hp7.keep sF
      have hN8 := sF _ _ hN7
      have na8 := na.same sF
      have hF8 : (upd H7 Fd (.dK [])) Fd = some (.dK (dkv [])) := upd_same
      generalize hH8 : upd H7 Fd (.dK []) = H8 at *
      have noN8 : ∀ ys, H8 N ≠ some (.lst ys) := fun ys e => by rw [hN8] at e; cases e
      refine ⟨N, _, hN8, trivial, fun od => ?_⟩
      have sx9 : SameX pen H (upd H8 N (.frz od (.dK (nkv nk)))) := fun b o nb hb => by rw [upd_ne (ne_of_none hb nN0)]; exact sx8 b o nb hb
      have hN9 : (upd H8 N (.frz od (.dK (nkv nk)))) N = some (.frz od (.dK (nkv nk))) := upd_same
      have hF9 : (upd H8 N (.frz od (.dK (nkv nk)))) Fd = some (.dK (dkv [])) := by rw [upd_ne nFN]; exact hF8
      have na9 := na8.dict (o := .frz od (.dK (nkv nk))) noN8
      have hp9 := hp8.other (sameX_upd (a := N) (o := .frz od (.dK (nkv nk)))) nNp.symm
      generalize hH9 : upd H8 N (.frz od (.dK (nkv nk))) = H9 at *
      refine ⟨.ref N, rfl, N, od, rfl, .inl ⟨_, hN9, ?_⟩⟩
      refine for_it (walk_keys (kvs := nkv nk)) (fun i σ H' => ∃ (y6 y9 y10 y11 : Option V), σ = [some (.ref pen), some (.ref t), some (.ref R), some (.int sa), some (.ref N), some (.int sp), y6, y7, some (.ref Fd), y9, y10, y11, none, none] ∧ SameX pen H H' ∧ PenAt H' pen (n + 50 + 200 * NkTot (nk.take i)) ∧ H' N = some (.frz od (.dK (nkv nk))) ∧
        NkAt H' pen R nk ∧ ∃ ks' : Ks, H' Fd = some (.dK (dkv ks')) ∧ (ks'.map (·.1)).Nodup ∧ ks'.length ≤ NkTot (nk.take i) ∧ (∀ p ∈ ks', p.2.length ≤ 6) ∧ ∀ c ∈ ks'.map (·.1), c < 1114112) ?_ (fun i σ H' _ h => by obtain ⟨_, _, _, _, _, _, _, h, _⟩ := h; exact h) ?_ ?_
      · exact ⟨_, _, _, _, rfl, sx9, hp9.mono (by omega), hN9, na9, [], hF9, List.nodup_nil, Nat.zero_le _, fun p hp => (by cases hp), fun c hc => (by simp at hc)⟩
      · rintro i x σ HA HA' hi ⟨z6, z9, z10, z11, rfl, sxA, hpA, hNA, naA, ks', hFA, kn, kl, kw, klow⟩ ⟨rfl, kk, kv, hk, rfl⟩
        have hi : i < nk.length := by unfold nkv at hi; rwa [List.length_map] at hi
        have hk : (nkv nk)[i]? = some (kk, kv) := hk
        have ek : (nkv nk)[i]? = some (kc nk[i].1, V.ref nk[i].2.1) := by
          unfold nkv
          rw [List.getElem?_map, List.getElem?_eq_getElem hi]; rfl
        rw [hk] at ek
        obtain rfl : kk = kc nk[i].1 := congrArg Prod.fst (Option.some.inj ek)
        have hpm : nk[i] ∈ nk := List.getElem_mem hi
        have hin : nk[i].1 ∈ ks.map (·.1) := pc.mem_iff.mp (by rw [← nk1]; exact List.mem_map.mpr ⟨_, hpm, rfl⟩)
        have tS := nkTot_take hi
        have tL := nkTot_le nk (i + 1)
        generalize nk[i] = p at *
        obtain ⟨u, hu1, hu2⟩ := key_val ok.nd hin
        have lu : u.length ≤ 6 := ok.word _ hu1
        obtain ⟨ap1, ap2, ap3, ap4⟩ := naA p hpm
        have dgN : DGet HA' N (kV (kc p.1)) (some (V.ref p.2.1)) := by
          rw [← nkv_val nkn hpm]
          exact .inl ⟨_, _, .inr ⟨od, hNA⟩, rfl, rfl⟩
        refine ⟨.ref N, rfl, sg1 p.1, rfl, N, _, rfl, dgN, p.2.1, rfl, ⟨_, .inl (.inl ap3)⟩, ?_⟩
        refine for_it (walk_list (xs := p.2.2.map sg1)) (fun j σ H' => ∃ (y9 y10 y11 : Option V), σ = [some (.ref pen), some (.ref t), some (.ref R), some (.int sa), some (.ref N), some (.int sp), some (sg1 p.1), y7, some (.ref Fd), y9, y10, y11, none, none] ∧ SameX pen H H' ∧ PenAt H' pen (n + 50 + 200 * (NkTot (nk.take i) + j)) ∧ H' N = some (.frz od (.dK (nkv nk))) ∧
          NkAt H' pen R nk ∧ ∃ ks' : Ks, H' Fd = some (.dK (dkv ks')) ∧ (ks'.map (·.1)).Nodup ∧ ks'.length ≤ NkTot (nk.take i) + j ∧ (∀ p ∈ ks', p.2.length ≤ 6) ∧ ∀ c ∈ ks'.map (·.1), c < 1114112) ?_ (fun j σ H' _ h => by obtain ⟨_, _, _, _, _, _, _, h, _⟩ := h; exact .inl (.inl (h p hpm).2.2.1)) ?_ ?_
        · exact ⟨_, _, _, rfl, sxA, hpA, hNA, naA, ks', hFA, kn, kl, kw, klow⟩
        · rintro j x σ HA HA' hj ⟨z9, z10, z11, rfl, sxA, hpA, hNA, naA, ks', hFA, kn, kl, kw, klow⟩ ⟨rfl, hx⟩
          rw [List.length_map] at hj
          rw [List.getElem?_map, List.getElem?_eq_getElem hj] at hx
          obtain rfl : sg1 p.2.2[j] = x := Option.some.inj hx
          have nlow : p.2.2[j] < 1114112 := (naA p hpm).2.2.2 _ (List.getElem_mem hj)
          have lp := nk_len_le hpm
          generalize p.2.2[j] = nm at *
          have dg := DGet.k (k := kc p.1) (sxA _ _ ndp hd)
          rw [hu2] at dg
          obtain ⟨poA, hpoA⟩ := hpA.some
          refine ⟨.ref pen, rfl, .ref t, rfl, t, _, 1, .ref d, rfl, rfl, tt sxA, atI_nat (j := 1) rfl, sg1 p.1, rfl, d, _, rfl, dg, u, rfl, by omega, fun L nL => ?_⟩
          have nLp : L ≠ pen := (ne_of_none hpoA nL).symm
          have sL := same_upd (o := .lst (u.map sg1)) nL
          generalize hn1 : NkTot (nk.take i) + j = n1 at *
          refine ⟨pen, L, u, n + 50 + 200 * n1, rfl, hpA.keep sL, by omega, nLp, .inl (.inl upd_same), by omega, fun HB M ys sxB hpB nM hM ly my => ?_⟩
          have sxAB := sL.toX.trans sxB
          have hNB := sxAB _ _ nNp hNA
          have naB := naA.sameX sxAB
          have hFB := sxAB _ _ nFp hFA
          have sx0B := sxA.trans sxAB
          have nMp : M ≠ pen := (ne_of_none (sL _ _ hpoA) nM).symm
          refine ⟨⟨_, rfl⟩, .ref M, rfl, M, rfl, ⟨_, .inl (.inl hM)⟩, fun D nD => ?_⟩
          obtain ⟨poB, hpoB⟩ := hpB.some
          have nDp : D ≠ pen := (ne_of_none hpoB nD).symm
          refine lc_it (walk_list (xs := ys.map sg1)) (fun j' H' => (∀ b o, b ≠ pen → HB b = some o → H' b = some o) ∧ PenAt H' pen (n + 50 + 200 * n1 + 30 + 20 * j') ∧ ∃ ts : List (List Nat), H' D = some (.lst (ts.map fun t => V.str (sOf t))) ∧ ts.length = j' ∧ ∀ t ∈ ts, t.length ≤ 1) ?_ (fun j' H' _ h => .inl (.inl (h.1 _ _ nMp hM))) ?_ ?_
          · exact ⟨fun b o _ hb => same_upd nD _ _ hb, hpB.keep (same_upd nD), [], upd_same, rfl, fun t ht => by cases ht⟩
          · rintro j' x H9 H9' hj' ⟨sm9, hp9, ts, hD9, lt, st⟩ ⟨rfl, hx⟩
            rw [List.length_map] at hj'
            rw [List.getElem?_map, List.getElem?_eq_getElem hj'] at hx
            obtain rfl : sg1 ys[j'] = x := Option.some.inj hx
            have hin2 : ys[j'] ∈ ks.map (·.1) := ok.inW _ hu1 _ (my _ (List.getElem_mem hj'))
            have hin3 : ys[j'] ∈ nk.map (·.1) := by rw [nk1]; exact pc.mem_iff.mpr hin2
            obtain ⟨r, hr3, er⟩ := List.mem_map.mp hin3
            obtain ⟨ar1, ar2, ar3, ar4⟩ := naB r hr3
            have lr5 := nk_len_le hr3
            have hN9 := sm9 _ _ nNp hNB
            have dgr : DGet H9' N (kV (kc r.1)) (some (V.ref r.2.1)) := by
              rw [← nkv_val nkn hr3]
              exact .inl ⟨_, _, .inr ⟨od, hN9⟩, rfl, rfl⟩
            rw [er] at dgr
            refine ⟨rfl, yes_ok ⟨.ref pen, rfl, .ref N, rfl, sg1 ys[j'], rfl, N, _, rfl, dgr, pen, r.2.1, r.2.2, 1, n + 50 + 200 * n1 + 30 + 20 * j', rfl, hp9, by omega, ar1, .inl (.inl (sm9 _ _ ar1 ar3)), by omega, by decide, fun H10 t sx10 hp10 lt1 _ => ?_⟩⟩
            refine ⟨ts.map fun t => V.str (sOf t), sx10 _ _ nDp hD9, sz_lt (by rw [List.length_map]; omega), fun b o nb hb => ?_, (hp10.other (sameX_upd (a := D)) nDp.symm).mono (by omega), ts ++ [t], by rw [upd_same, List.map_append]; rfl, by rw [List.length_append, lt]; rfl, fun t' ht' => ?_⟩
            · rw [upd_ne (ne_of_none hb nD)]
              exact sx10 _ _ nb (sm9 b o nb hb)
            · rcases List.mem_append.mp ht' with h | h
              · exact st _ h
              · rw [List.mem_singleton] at h
                rw [h]; exact lt1
          · rintro H9 ⟨sm9, hp9, ts, hD9, lt, st⟩
            rw [List.length_map] at lt hp9
            obtain ⟨su1, su2⟩ := short_sum ts st
            refine ⟨sOf [], D, ts.map sOf, rfl, rfl, .inl (.inl (.inl (by rw [hD9, vals_strs]))), by rw [List.length_map, sOf_len]; show _ + ts.length * 0 ≤ 16777216; omega, ?_⟩
            rw [join_list]
            have hF9 := sm9 _ _ nFp hFB
            refine ⟨.ref Fd, rfl, sg1 nm, rfl, Fd, _, rfl, DPut.k (k := kc nm) hF9 (sz_lt (by unfold dkv; rw [List.length_map]; omega)), ?_⟩
            rw [dkv_put]
            have noF : ∀ ys, H9 Fd ≠ some (.lst ys) := fun ys e => by rw [hF9] at e; cases e
            refine ⟨_, _, _, rfl, fun b o nb hb => ?_, (hp9.other (sameX_upd (a := Fd)) nFp.symm).mono (by omega), ?_, (naB.sameX sm9).dict noF, putA ks' nm ts.flatten, upd_same, putA_nodup kn, ?_, fun p hp => ?_, fun c hc => ?_⟩
            · rw [upd_ne (ne_of_none hb nF0)]
              exact sm9 _ _ nb (sx0B _ _ nb hb)
            · rw [upd_ne nFN.symm]
              exact sm9 _ _ nNp hNB
            · have := putA_len ks' nm ts.flatten
              omega
            · rcases putA_mem hp with h | h
              · exact kw p h
              · rw [h]
                show ts.flatten.length ≤ 6
                omega
            · rw [putA_keys] at hc
              split at hc
              · exact klow c hc
              · rcases List.mem_append.mp hc with h | h
                · exact klow c h
                · rw [List.mem_singleton] at h
                  rw [h]; exact nlow
        · rintro σ HB ⟨z9, z10, z11, rfl, sxB, hpB, hNB, naB, ks2, hFB, kn2, kl2, kw2, klow2⟩
          rw [List.length_map] at kl2 hpB
          exact ⟨_, _, _, _, rfl, sxB, by rw [tS]; exact hpB, hNB, naB, ks2, hFB, kn2, by rw [tS]; exact kl2, kw2, klow2⟩
      · rintro σ HB ⟨z6, z9, z10, z11, rfl, sxB, hpB, hNB, naB, ks', hFB, kn, kl, kw, klow⟩
        refine ⟨hNB, ?_⟩
        have lnv : NkTot (nk.take (nkv nk).length) = NkTot nk := by
          unfold nkv
          rw [List.length_map, List.take_length]
        rw [lnv] at hpB kl
        have noNB : ∀ ys, HB N ≠ some (.lst ys) := fun ys e => by rw [hNB] at e; cases e
        have sxC : SameX pen H (upd HB N (.dK (nkv nk))) := fun b o nb hb => by rw [upd_ne (ne_of_none hb nN0)]; exact sxB b o nb hb
        have hNC : (upd HB N (.dK (nkv nk))) N = some (.dK (nkv nk)) := upd_same
        have hFC : (upd HB N (.dK (nkv nk))) Fd = some (.dK (dkv ks')) := by rw [upd_ne nFN]; exact hFB
        have naC := naB.dict (o := .dK (nkv nk)) noNB
        have hpC := hpB.other (sameX_upd (a := N) (o := .dK (nkv nk))) nNp.symm
        generalize hHC : upd HB N (.dK (nkv nk)) = HC at *
        obtain ⟨poC, hpoC⟩ := hpC.some
        have lF := ok.lenF
        refine ⟨.ref pen, rfl, .ref t, rfl, t, _, 0, .str (sOf first), rfl, rfl, tt sxC, atI_nat (j := 0) rfl, first, rfl, by omega, fun L nL => ?_⟩
        have nLp : L ≠ pen := (ne_of_none hpoC nL).symm
        have sL := same_upd (o := .lst (first.map sg1)) nL
        refine ⟨pen, L, first, n + 50 + 200 * NkTot nk, rfl, hpC.keep sL, by omega, nLp, .inl (.inl upd_same), by omega, fun HD M ys sxD hpD nM hM ly my => ?_⟩
        have sxCD := sL.toX.trans sxD
        have hND := sxCD _ _ nNp hNC
        have naD := naC.sameX sxCD
        have hFD := sxCD _ _ nFp hFC
        have sx0D := sxC.trans sxCD
        have nMp : M ≠ pen := (ne_of_none (sL _ _ hpoC) nM).symm
        refine ⟨⟨_, rfl⟩, .ref M, rfl, M, rfl, ⟨_, .inl (.inl hM)⟩, fun D nD => ?_⟩
        obtain ⟨poD, hpoD⟩ := hpD.some
        have nDp : D ≠ pen := (ne_of_none hpoD nD).symm
        refine lc_it (walk_list (xs := ys.map sg1)) (fun j' H' => (∀ b o, b ≠ pen → HD b = some o → H' b = some o) ∧ PenAt H' pen (n + 50 + 200 * NkTot nk + 30 + 20 * j') ∧ ∃ ts : List (List Nat), H' D = some (.lst (ts.map fun t => V.str (sOf t))) ∧ ts.length = j' ∧ ∀ t ∈ ts, t.length ≤ 1) ?_ (fun j' H' _ h => .inl (.inl (h.1 _ _ nMp hM))) ?_ ?_
        · exact ⟨fun b o _ hb => same_upd nD _ _ hb, hpD.keep (same_upd nD), [], upd_same, rfl, fun t ht => by cases ht⟩
        · rintro j' x H9 H9' hj' ⟨sm9, hp9, ts, hD9, lt, st⟩ ⟨rfl, hx⟩
          rw [List.length_map] at hj'
          rw [List.getElem?_map, List.getElem?_eq_getElem hj'] at hx
          obtain rfl : sg1 ys[j'] = x := Option.some.inj hx
          have hin2 : ys[j'] ∈ ks.map (·.1) := ok.inF _ (my _ (List.getElem_mem hj'))
          have hin3 : ys[j'] ∈ nk.map (·.1) := by rw [nk1]; exact pc.mem_iff.mpr hin2
          obtain ⟨r, hr3, er⟩ := List.mem_map.mp hin3
          obtain ⟨ar1, ar2, ar3, ar4⟩ := naD r hr3
          have lr5 := nk_len_le hr3
          have hN9 := sm9 _ _ nNp hND
          have dgr : DGet H9' N (kV (kc r.1)) (some (V.ref r.2.1)) := by
            rw [← nkv_val nkn hr3]
            exact .inl ⟨_, _, .inl hN9, rfl, rfl⟩
          rw [er] at dgr
          refine ⟨rfl, yes_ok ⟨.ref pen, rfl, .ref N, rfl, sg1 ys[j'], rfl, N, _, rfl, dgr, pen, r.2.1, r.2.2, 1, n + 50 + 200 * NkTot nk + 30 + 20 * j', rfl, hp9, by omega, ar1, .inl (.inl (sm9 _ _ ar1 ar3)), by omega, by decide, fun H10 t sx10 hp10 lt1 _ => ?_⟩⟩
          refine ⟨ts.map fun t => V.str (sOf t), sx10 _ _ nDp hD9, sz_lt (by rw [List.length_map]; omega), fun b o nb hb => ?_, (hp10.other (sameX_upd (a := D)) nDp.symm).mono (by omega), ts ++ [t], by rw [upd_same, List.map_append]; rfl, by rw [List.length_append, lt]; rfl, fun t' ht' => ?_⟩
          · rw [upd_ne (ne_of_none hb nD)]
            exact sx10 _ _ nb (sm9 b o nb hb)
          · rcases List.mem_append.mp ht' with h | h
            · exact st _ h
            · rw [List.mem_singleton] at h
              rw [h]; exact lt1
        · rintro H9 ⟨sm9, hp9, ts, hD9, lt, st⟩
          rw [List.length_map] at lt hp9
          obtain ⟨su1, su2⟩ := short_sum ts st
          refine ⟨sOf [], D, ts.map sOf, rfl, rfl, .inl (.inl (.inl (by rw [hD9, vals_strs]))), by rw [List.length_map, sOf_len]; show _ + ts.length * 0 ≤ 16777216; omega, ?_⟩
          rw [join_list]
          refine ⟨.ref Fd, rfl, sz_le (by show 2 ≤ 1000000; decide), fun T nT => ?_⟩
          have sT := same_upd (o := .tup [.str (sOf ts.flatten), .ref Fd]) nT
          exact q _ T Fd ts.flatten ks' ((sx0D.trans sm9).trans sT.toX) ((hp9.keep sT).mono (by omega)) nF0 (.inl (.inl upd_same)) (sT _ _ (sm9 _ _ nFp hFD)) ⟨kn, by omega, kw, klow⟩ (by omega)
end
end LG

/-! ## W20 -/
set_option maxRecDepth 100000
set_option maxHeartbeats 4000000
/-! set(text), and what sorted makes of it. -/
namespace LG
open PySem PySem.Spec PyProof.Rows L2

/-- at a stands a set of just the texts l, fit to be walked -/
def TxSet (P : Program) (w : World) (h : Heap) (a : Addr) (l : List Str) : Prop :=
  ∃ (D : Froz.SD) (m : List Str), h.get? a = some (Froz.sObj "set" D) ∧ Froz.TxOk P w D m ∧ m.length ≤ l.length ∧ (∀ k, k ∈ m ↔ k ∈ l) ∧ Ris D.2.2.place.toList ∧ (w.params.followText "set-order" = true ∨ D.2.2.led = true)
theorem TxSet.keep {P : Program} {w : World} {h h' : Heap} {a : Addr} {l : List Str} (R : TxSet P w h a l) (k : ∀ o, h.get? a = some o → h'.get? a = some o) : TxSet P w h' a l := by
  obtain ⟨D, m, ho, r⟩ := R
  exact ⟨D, m, k _ ho, r⟩
theorem addTx_rises (hh : Int) (v : Value) (D : Froz.SD) (r : Ris D.2.2.place.toList) : Ris (Froz.addTx hh v D).2.2.place.toList ∧ (Froz.addTx hh v D).2.2.led = D.2.2.led := by
  have r1 := layNew_ris D.2.2 D.1 hh v r
  have d1 := layNew_led D.2.2 D.1 hh v
  unfold Froz.addTx Froz.tailTx
  generalize layNew D.2.2 D.1 hh v = Z at r1 d1 ⊢
  by_cases pl : Z.2.1.plain = true
  · rw [if_pos pl]
    split
    · exact ⟨relayAll_ris _ _ _, (relayAll_led _ _ _).trans d1⟩
    · exact ⟨r1, d1⟩
  · rw [if_neg pl]
    split
    · exact ⟨relayAll_ris _ _ _, (relayAll_led _ _ _).trans d1⟩
    · exact ⟨r1, d1⟩

section
variable {P : Program} {w : World} {A : Around} {E : Value → Shared → Prop} {s : Shared}

/-- what is in it already is not laid again -/
theorem add_old {a : Addr} {T : String} {D : Froz.SD} {m : List Str} {k : Str} {u : Tok} {Q : Bool → Shared → Prop} (ho : s.heap.get? a = some (Froz.sObj T D)) (ok : Froz.TxOk P w D m) (hk : k ∈ m) (hb : m.length < scanBound)
    (h : Q false s) : wpAny (model P w) A (setAddHashed a (.str k u) (hashStr w k)) Q E s := by
  obtain ⟨es, ep, t⟩ := D
  have hd : (Froz.sObj T (es, ep, t)).data = .set es ep t := rfl
  have hsz : es.size = m.length := ok.sz
  have hel : ElemsOf (PySem.strKind P w) es.toList := ok.el
  have hf : t.fits es.size = true := ok.fit
  unfold setAddHashed setAddHashedIn
  refine wpAny_holding (wpAny_bind (wpAny_setState_of ho hd hf ?_))
  dsimp only
  rw [byScan_of rfl (by omega) hel]
  simp only [↓reduceIte]
  unfold setAddByScan
  refine wpAny_bind (wpAny_bind (wpAny_rule (wpAny_bind (wpAny_setScan_of (knd := PySem.strKind P w) (k := k) (Froz.is_str k u) ho hd hf hel ?_))))
  obtain ⟨e, he, q⟩ := (ok.mem k).mp hk
  cases hr : List.findIdx? (fun e => (PySem.strKind P w).is k e.2) es.toList with
  | none =>
    have := List.findIdx?_eq_none_iff.mp hr e he
    rw [q] at this
    cases this
  | some j => exact wpAny_pure (wpAny_pure h)

/-- one text more -/
theorem TxSet.more {a : Addr} {l : List Str} {k : Str} {u : Tok} {Q : Bool → Shared → Prop} (R : TxSet P w s.heap a l) (hb : l.length + 1 < scanBound)
    (h : ∀ (b : Bool) (h' : Heap), TxSet P w h' a (k :: l) → (∀ c, c ≠ a → h'.get? c = s.heap.get? c) → Q b { s with heap := h' }) : wpAny (model P w) A (setAddHashed a (.str k u) (hashStr w k)) Q E s := by
  obtain ⟨D, m, ho, ok, lm, mm, ri, led⟩ := R
  by_cases hk : k ∈ m
  · refine add_old ho ok hk (by omega) (h false s.heap ⟨D, m, ho, ok, by rw [List.length_cons]; omega, fun x => ?_, ri, led⟩ fun _ _ => rfl)
    rw [mm x, List.mem_cons]
    constructor
    · exact .inr
    · rintro (z | z)
      · rw [z]; exact (mm k).mp hk
      · exact z
  · obtain ⟨r2, d2⟩ := addTx_rises (hashStr w k) (.str k u) D ri
    refine Froz.add_x ho ok hk (by omega) (h true _ ⟨_, k :: m, Froz.get_upd _ ho rfl, Froz.add_ok u ok, by rw [List.length_cons, List.length_cons]; omega, fun x => ?_, r2, led.imp id fun z => by rw [d2]; exact z⟩ fun c hc => Heap.get?_update_other _ _ (Ne.symm hc))
    rw [List.mem_cons, List.mem_cons, mm x]

/-- the signs of a text up to i, as texts, the last first -/
def signsTo (x : Str) (i : Nat) : List Str := ((x.cps.toList.take i).map fun c => (⟨#[c]⟩ : Str)).reverse
theorem signsTo_len (x : Str) (i : Nat) : (signsTo x i).length ≤ i := by
  unfold signsTo
  rw [List.length_reverse, List.length_map, List.length_take]
  omega
theorem signsTo_succ {x : Str} {i c : Nat} (h : x.cps[i]? = some c) : signsTo x (i + 1) = ⟨#[c]⟩ :: signsTo x i := by
  unfold signsTo
  rw [List.take_add_one, Array.getElem?_toList, h, List.map_append, List.reverse_append]
  rfl

/-- the set takes the rest of the text's signs in -/
theorem signs_loop {I : Addr} {fp wr : List Addr} {G : Array GenState → Array GenState → Prop} {St : Nat → Shared → Prop} {R : Result → Shared → Prop} {x : Str}
    (W : WalksS P w A.in1 I fp wr G x.cps.size (SignAt x) St) (S : Addr) (hS : S ∉ fp) (hb : x.cps.size + 1 < scanBound) :
    ∀ (k i : Nat) (s : Shared), x.cps.size - i = k → i ≤ x.cps.size → St i s → TxSet P w s.heap S (signsTo x i) →
      (∀ s', Moved (S :: wr) G s s' → TxSet P w s'.heap S (signsTo x x.cps.size) → R (.ok (.ret .none)) s') →
      codeAny (model P w) A (.builtin "set.update.loop" ⟨[.ref S, .ref I], []⟩) R s := by
  have hSw : S ∉ wr := fun z => hS (W.sub _ z)
  intro k
  induction k with
  | zero =>
    intro i s e hi st R0 fin
    obtain rfl : i = x.cps.size := by omega
    refine codeAny_builtin F.entry_set_update_loop ?_
    rw [Around.under_plainId F.plain_set_update_loop _]
    show wpAny _ A.in1 (pyNext (.ref I) >>= _) _ _ s
    refine wpAny_bind (W.done s _ _ st fun s' mv => ?_)
    show wpAny _ A.in1 (ret Value.none) _ _ s'
    exact wpAny_pure (fin s' (mv.mono fun b hb => List.mem_cons_of_mem _ hb) (R0.keep fun o q => mv.heap S o hSw q))
  | succ k ih =>
    intro i s e hi st R0 fin
    refine codeAny_builtin F.entry_set_update_loop ?_
    rw [Around.under_plainId F.plain_set_update_loop _]
    show wpAny _ A.in1 (pyNext (.ref I) >>= _) _ _ s
    refine wpAny_bind (W.item i s _ _ (by omega) st fun v s1 sg st1 mv => ?_)
    obtain ⟨c, u, hc, rfl⟩ := sg
    have R1 : TxSet P w s1.heap S (signsTo x i) := R0.keep fun o q => mv.heap S o hSw q
    have ln := signsTo_len x i
    show wpAny _ A.in1 (holding [Value.str ⟨#[c]⟩ u] (setAdd S (.str ⟨#[c]⟩ u)) >>= _) _ _ s1
    refine wpAny_bind (wpAny_holding ?_)
    unfold setAdd
    refine wpAny_holding (wpAny_bind ((PySem.strKind P w).pyHash (k := ⟨#[c]⟩) (Froz.is_str _ _) ?_))
    refine TxSet.more (s := { s1 with toks := s1.toks + 1 }) R1 (by omega) fun b h' R2 kp => ?_
    rw [← signsTo_succ hc] at R2
    have other : ∀ b o, b ≠ S → s1.heap.get? b = some o → h'.get? b = some o := fun b o nb q => (kp b nb).trans q
    refine wpAny_pure ⟨plainId_quiet F.plain_set_update_loop _, ih (i + 1) _ (by omega) (by omega) (W.frame _ s1 _ _ st1 (Nat.le_succ _) fun b hb o q => other b o (fun z => hS (by rw [← z]; exact hb)) q) R2 fun s2 mv2 R3 => ?_⟩
    exact fin s2 (Moved.trans W.gtrans ((mv.mono fun b hb => List.mem_cons_of_mem _ hb).then_heap (Nat.le_succ _) fun b o hb q => other b o (fun z => hb (by rw [z]; exact List.mem_cons_self)) q) mv2) R3

/-- the new set, nothing in it -/
abbrev freshSet (w : World) : Obj := { cls := .type "set", dict := none, data := .set #[] 0 (.fresh 0 0 (!w.params.followText "set-order")) }
theorem TxSet.fresh {h : Heap} {a : Addr} {x : Str} (ho : h.get? a = some (freshSet w)) : TxSet P w h a (signsTo x 0) := by
  refine ⟨(#[], 0, .fresh 0 0 (!w.params.followText "set-order")), [], ho, Froz.TxOk.nil (by rfl), Nat.zero_le _, fun k => by unfold signsTo; simp, List.Pairwise.nil, ?_⟩
  show _ ∨ (!w.params.followText "set-order") = true
  cases w.params.followText "set-order"
  · exact .inr rfl
  · exact .inl rfl
theorem set_of_text {x : Str} {t : Tok} {Q : Value → Shared → Prop} (hh : A.handled = none) (hb : x.cps.size + 1 < scanBound)
    (h : ∀ (h' : Heap) (tk : Nat), TxSet P w h' s.heap.objs.size (signsTo x x.cps.size) → (∀ b o, s.heap.get? b = some o → h'.get? b = some o) → Q (.ref s.heap.objs.size) { s with heap := h', toks := tk }) :
    wpAny (model P w) A (call (.type "set") [.str x t]) Q E s := by
  obtain ⟨c, tl, hmro⟩ := F.called_set.mro
  have hmade := F.called_set.made
  have hsub := F.called_set.sub
  refine wpAny_call (codeAny_of_tree ?_)
  show wpAny _ _ (callAny (.type "set") _) _ _ _
  refine wpAny_pure ⟨Code.quiet_builtin _ (by decide +kernel), codeAny_builtin F.entry_type_call ?_⟩
  rw [Around.under_plain (weight_type_call_type "set" [.str x t] []) rfl]
  have h1 := F.called_set.notType
  have h2 := F.called_set.canCreate
  have hct := F.typeCall_set_1 (.str x t)
  repeat (any_goals (first | assumption | wp_step))
  refine codeAny_mono (code_set_led1 (.str x t) (E := E) (Q₁ := fun ob s1 => ob = .ref s.heap.objs.size ∧ s1 = { s with heap := s.heap.push (freshSet w) }) ⟨rfl, rfl⟩) fun r s1 hr => ?_
  cases r with
  | error e => exact hr
  | ok fl =>
    cases fl with
    | ret ob =>
      obtain ⟨rfl, rfl⟩ := hr
      have at0 : (s.heap.push (freshSet w)).get? s.heap.objs.size = some (freshSet w) := Heap.get?_push_size _ rfl
      have hT : Shared.TypeIs { s with heap := s.heap.push (freshSet w) } (.ref s.heap.objs.size) "set" := ⟨_, at0, rfl⟩
      have hli := F.called_set.init.lookup
      have hbi := F.called_set.init.bind (.ref s.heap.objs.size)
      repeat (any_goals (first | assumption | wp_step))
      refine codeAny_mono (codeAny_call_builtin (R := wants (fun r s2 => r = .none ∧ ∃ h' tk, s2 = { s with heap := h', toks := tk } ∧ TxSet P w h' s.heap.objs.size (signsTo x x.cps.size) ∧ ∀ b o, s.heap.get? b = some o → h'.get? b = some o) E)
        F.called_set.init.plain F.entry_set_init (check_set_init_1 hT ?_)) fun r2 s2 hr2 => ?_
      · have hs1 := F.sub_str_set
        have hs2 := F.sub_str_frozenset
        have hne : (Value.type "str" == Value.type "dict") = false := by decide
        unfold Builtin.«set.__init__» noKeywords Builtin.Frozenset.updateFrom
        generalize hPI : pyIter = PI
        wp_walk
        subst hPI
        refine wpAny_pyIter_str fun io St hW hSt => ?_
        refine wpAny_bind (wpAny_runValue ?_)
        have hz : (s.heap.push (freshSet w)).objs.size = s.heap.objs.size + 1 := Heap.size_push ..
        have hout : s.heap.objs.size ∉ [(s.heap.push (freshSet w)).objs.size] := by
          rw [hz, List.mem_singleton]; omega
        refine signs_loop (x := x) (hW _ (by simp [hh])).toS s.heap.objs.size hout hb (x.cps.size - 0) 0 _ rfl (Nat.zero_le _) hSt (TxSet.fresh (Heap.get?_push_of_some _ at0)) fun s' mv R => ?_
        obtain ⟨h', g2, d', tk', os'⟩ := s'
        have eg : g2 = s.gens := mv.gens
        have ed : d' = s.drawn := mv.drawn
        have eo : os' = s.os := mv.os
        subst eg; subst ed; subst eo
        show wpAny _ _ _ _ _ _
        refine wpAny_pure ?_
        show wpAny _ _ (ret Value.none) _ _ _
        refine wpAny_pure ⟨rfl, h', tk', rfl, R, fun b o e => ?_⟩
        have hb0 : b < s.heap.objs.size := Heap.lt_size e
        refine mv.heap b o ?_ (Heap.get?_push_of_some _ (Heap.get?_push_of_some _ e))
        intro z
        rcases List.mem_cons.mp z with z | z
        · exact Nat.ne_of_lt hb0 z
        · exact Nat.ne_of_lt (Nat.lt_succ_of_lt hb0) ((List.mem_singleton.mp z).trans hz)
      · cases r2 with
        | error e => exact hr2
        | ok fl2 =>
          cases fl2 with
          | ret r =>
            obtain ⟨rfl, h', tk, rfl, R, kp⟩ := hr2
            repeat (any_goals (first | assumption | wp_step))
            exact h _ _ R kp
          | _ => exact hr2.elim
    | _ => exact hr.elim

/-- a text's value as a text -/
def strOfV (v : Value) : Str := match v with
  | .str k _ => k
  | _ => Str.empty
theorem strs_of : ∀ vs : List Value, (∀ v ∈ vs, ∃ k u, v = Value.str k u) → StrsAre vs (vs.map strOfV)
  | [], _ => .nil
  | v :: vs, h => by
    obtain ⟨k, u, rfl⟩ := h v List.mem_cons_self
    exact .cons k u (strs_of vs fun y hy => h y (List.mem_cons_of_mem _ hy))
theorem sorted_of_set {a : Addr} {l : List Str} {Q : Value → Shared → Prop} (R : TxSet P w s.heap a l) (hh : A.handled = none) (h64 : l.length < 64)
    (hQ : ∀ s' p (out : Array Value) (c : Nat) (ys : List Str), (∀ b o, s.heap.get? b = some o → s'.heap.get? b = some o) → s'.gens = s.gens → s'.os = s.os → s.heap.objs.size ≤ p →
      s'.heap.get? p = some (seqObj "list" out c) → StrsAre out.toList ys → (∀ k, k ∈ ys ↔ k ∈ l) → ys.length ≤ l.length → Q (.ref p) s') :
    wpAny (model P w) A (call (.builtin "sorted") [.ref a]) Q E s := by
  obtain ⟨⟨es, ep, t⟩, m, ho, ok, lm, mm, ri, led⟩ := R
  have hsz : es.size = m.length := ok.sz
  have h64b : es.size < scanBound := Nat.lt_of_lt_of_le (show es.size < 64 by omega) (by decide)
  refine Calls.call_function_entry kind_sorted plain_sorted entry_sorted (args_sorted1 _) ?_
  unfold Builtin.«sorted»
  refine wpAny_bind (m := checkCount "sorted" 1 1 _) (wpAny_pure ?_)
  refine wpAny_bind (collect_set (A := A.in1) hh ⟨_, ho, rfl, rfl⟩ ok.fit h64b ri led fun s1 vs k1 z1 g1 o1 pm => ?_)
  have hvl : vs.length = es.size := by rw [pm.length_eq, List.length_map, Array.length_toList]
  have each : ∀ v ∈ vs, ∃ k u, v = Value.str k u := fun v hv => by
    obtain ⟨e, he, rfl⟩ := List.mem_map.mp (pm.mem_iff.mp hv)
    obtain ⟨⟨k, hk, _⟩, _⟩ := ok.el e he
    have hk : Value.isStrOf k e.2 = true := hk
    cases hv : e.2 with
    | str z u => exact ⟨z, u, rfl⟩
    | _ => rw [hv] at hk; cases hk
  have hS := strs_of vs each
  have memS : ∀ k, k ∈ vs.map strOfV ↔ k ∈ l := fun k => by
    rw [← mm k, ok.mem k]
    constructor
    · intro hk
      obtain ⟨v, hv, rfl⟩ := List.mem_map.mp hk
      obtain ⟨k, u, rfl⟩ := each v hv
      obtain ⟨e, he, q⟩ := List.mem_map.mp (pm.mem_iff.mp hv)
      exact ⟨e, he, by rw [q]; exact Froz.is_str k u⟩
    · rintro ⟨e, he, q⟩
      have hm : e.2 ∈ vs := pm.mem_iff.mpr (List.mem_map.mpr ⟨e, he, rfl⟩)
      obtain ⟨z, u, hz⟩ := each _ hm
      refine List.mem_map.mpr ⟨e.2, hm, ?_⟩
      rw [hz] at q ⊢
      have q2 : Value.isStrOf k (.str z u) = true := q
      simpa [Value.isStrOf, strOfV] using q2
  refine wpAny_bind (wpAny_newList ?_ (by rw [hvl, sizeLine_eq]; omega))
  have hoL : (s1.heap.push (seqObj "list" vs.toArray 0)).get? s1.heap.objs.size = some (seqObj "list" vs.toArray 0) := Heap.get?_push_size _ rfl
  refine wpAny_bind (wpAny_holding (wpAny_call_entry slot_list_sort ⟨_, hoL, rfl⟩ entry_list_sort
    (list_sort_treeK strKind_oneLt hoL hS.keysOf (fun v1 v2 rest e => keyKind_strs (by rw [← e]; exact hS)) (by omega) fun st' hp hs => ⟨_, rfl, ?_⟩) (args_list_sort _)))
  obtain ⟨ys, y1, y2, y3⟩ := sorted_out_str hS hp hs
  obtain ⟨c, hc⟩ := sortedHeap_at (vs := vs) (out := (arrOf st').map (·.2)) hoL
  refine wpAny_pure ⟨_, rfl, hQ _ s1.heap.objs.size _ c ys (fun b u e => ?_) g1 o1 z1 hc y1 (fun k => by rw [y2.mem_iff, memS k]) (by rw [y2.length_eq, List.length_map]; omega)⟩
  have q := k1 b u e
  have hlt := Heap.lt_size q
  show (sortedHeap (s1.heap.push (seqObj "list" vs.toArray 0)) s1.heap.objs.size vs _).get? b = some u
  rw [sortedHeap_old (Nat.ne_of_lt hlt) (by rw [Heap.size_push]; exact Nat.lt_succ_of_lt hlt)]
  exact Heap.get?_push_of_some _ q
end

/-! ### the two rules -/
def TxO (P : Program) (w : World) (a : Addr) (l : List Str) : HO := .ext fun h => TxSet P w h a l
def rSetTx (P : Program) (w : World) : List V → Hp → VK → Prop := fun xs H Q => ∃ x : Str, xs = [.str x] ∧ x.cps.size ≤ 1000 ∧ ∀ p, H p = none → Q (.ref p) (upd H p (TxO P w p (signsTo x x.cps.size)))
def rSortTx (P : Program) (w : World) : List V → Hp → VK → Prop := fun xs H Q => ∃ (a : Addr) (l : List Str), xs = [.ref a] ∧ H a = some (TxO P w a l) ∧ l.length < 64 ∧
  ∀ (ys : List Str) (p : Addr), (∀ k, k ∈ ys ↔ k ∈ l) → ys.length ≤ l.length → H p = none → Q (.ref p) (upd H p (.lst (ys.map V.str)))
theorem call_set_tx {X : Cx} (hc : X.calm = true) : CallR X (.type "set") (rSetTx X.prog X.w) := by
  intro pins s σ H xs us Q I r h
  obtain ⟨x, rfl, hx, q⟩ := h
  obtain ⟨u, rfl, ru⟩ := vals1 r
  obtain ⟨t, rfl⟩ := ru
  refine set_of_text (I.ok.hd hc) (Nat.lt_of_le_of_lt (Nat.succ_le_succ hx) (by decide)) fun h' tk R kp => ?_
  have ob : ∀ H2 : Hp, ObjOk X.prog X.w H2 h' s.heap.objs.size (TxO X.prog X.w s.heap.objs.size (signsTo x x.cps.size)) := fun H2 => by
    obtain ⟨D, m, ho, _⟩ := id R
    exact ⟨R, ⟨_, ho⟩, fun h1 h2 p k => TxSet.keep p k⟩
  exact ⟨.ref s.heap.objs.size, _, I.laid (t' := tk) kp (Nat.le_refl _) (ob _), rfl, q _ (I.hok.fresh (Nat.le_refl _))⟩
theorem cr_sortedTx {X : Cx} (hc : X.calm = true) : CallR X (.builtin "sorted") (rSortTx X.prog X.w) := by
  intro pins s σ H xs us Q I r h
  obtain ⟨a, l, rfl, ha, h64, q⟩ := h
  have R : TxSet X.prog X.w s.heap a l := (I.hok a _ ha).1
  rw [Vals.ref1 r]
  refine sorted_of_set R (I.ok.hd hc) h64 fun s' p out c ys kp eg eo hp hg hS mm ly => ?_
  have hlen : (ys.map V.str).length ≤ sizeLine := by rw [List.length_map]; exact sz_le (by omega)
  have hn : H p = none := I.hok.fresh hp
  have J : Inv X pins σ (upd H p (.lst (ys.map V.str))) { s with heap := s'.heap, gens := s'.gens, drawn := s'.drawn, toks := s'.toks } :=
    I.call (ch := []) (Un.laid kp hp hn) (I.hok.laid kp hp ⟨hlen, out.toList, c, vals_of_strs hS, hg⟩) (by rw [eg]; exact I.bare) (fun _ z => nomatch z)
  have e : s' = { s with heap := s'.heap, gens := s'.gens, drawn := s'.drawn, toks := s'.toks } := by
    cases s'
    cases s
    cases eo
    rfl
  rw [e]
  exact ⟨.ref p, _, J, rfl, q ys p mm ly hn⟩
theorem mem_signs {l : List Nat} {k : Str} : k ∈ signsTo (sOf l) (sOf l).cps.size ↔ ∃ c, c ∈ l ∧ k = sOf [c] := by
  unfold signsTo sOf
  simp only [List.mem_reverse, List.mem_map]
  have e : (l.toArray.toList.take l.toArray.size) = l := by simp
  rw [e]
  constructor
  · rintro ⟨c, hc, rfl⟩; exact ⟨c, hc, rfl⟩
  · rintro ⟨c, hc, rfl⟩; exact ⟨c, hc, rfl⟩
end LG

/-! ## W21 -/
set_option maxRecDepth 100000
set_option maxHeartbeats 4000000
namespace LG
open PySem PySem.Spec PyProof.Rows L2

section
variable {P : Program} {w : World} {K : PySem.W.Frag} {mg : Str → Option Value} {base : Heap} {f : Addr} {fd : FuncData}

/-! ### counts_alike -/
structure CCA (P : Program) (w : World) (K : PySem.W.Frag) (mg : Str → Option Value) (base : Heap) : Prop where
  both_sizes : Cal P w K mg base "both_sizes" ["one", "other"] (spBothSizes K) 2
  first_counts : Cal P w K mg base "first_counts" ["book", "many"] (spFirstCounts K) 3
  letters : Cal P w K mg base "letters" ["book"] (spLetters K) 1
  amount_of : Cal P w K mg base "amount_of" ["book", "amounts", "letter"] (spAmountOf K) 2
  tie : Cal P w K mg base "tie" ["one", "other"] (spTie K) 6
abbrev s_counts_alike : Stmt := topS 47
theorem sc_counts_alike : FnScope ["one", "other", "many", "mine", "theirs", "age", "letter"] ["one", "other"] (defScope s_counts_alike) := ⟨rfl, rfl, rfl, by decide +kernel, rfl, by decide +kernel, by decide +kernel⟩
def spCountsAlike (K : PySem.W.Frag) : Sp := fun vs H Q _ => ∃ (a a' : Addr) (b b' : Bk), vs = [.ref a, .ref a'] ∧ BookAt K H a b ∧ BookAt K H a' b' ∧ BkOK b ∧ BkOK b' ∧
  (∀ (H' : Hp) (t : Addr) (n : Nat) (x : V), Same H H' → H' t = some (.tup [.str "part", .int n, x]) → Q (.ref t) H') ∧
  (∀ (H' : Hp) (t p : Addr) (cc : List Int), Same H H' → TieOK (bothB b b') (b.k + b'.k) cc → (∀ m, m < b.k + b'.k → ∀ c, amtAt b.sg (b.cnt m) c = amtAt b'.sg (b'.cnt m) c) → H' t = some (.tup [.str "alike", .ref p]) → Q (.ref t) H')
theorem ok_counts_alike (F : Fun K "counts_alike" "counts_alike" s_counts_alike f fd) (B : Bi mg) (C : CCA P w K mg base) : FnOk P w K mg base CX0 7 f fd ["one", "other"] (spCountsAlike K) := by
  refine F.ok sc_counts_alike (fun vs H Q E h => ?_) (fun cdv A outer s H vs Q E hr h => ?_)
  · obtain ⟨a, a', b, b', rfl, _⟩ := h
    rfl
  · obtain ⟨a, a', b, b', rfl, hb, hb', ok, ok', q1, q2⟩ := h
    have k5 := ok.k
    have k5' := ok'.k
    refine ⟨_, (pss_cons (ps_set (i := 2) sc_counts_alike.nd rfl (.inl rfl) (pe_cal C.both_sizes hr (by decide) (pa_cons (pv 0) (pa_cons (pv 1) pa_nil))))
      (pss_cons (ps_set (i := 3) sc_counts_alike.nd rfl (.inl rfl) (pe_cal C.first_counts hr (by decide) (pa_cons (pv 0) (pa_cons (pv 2) pa_nil))))
      (pss_cons (ps_set (i := 4) sc_counts_alike.nd rfl (.inl rfl) (pe_cal C.first_counts hr (by decide) (pa_cons (pv 1) (pa_cons (pv 2) pa_nil))))
      (pss_cons (ps_for PassesOwn.never rfl (pi_range1 rfl B.range (pa_cons (pv 2) pa_nil)) (pg_name (i := 5) sc_counts_alike.nd rfl (.inl rfl))
        (pss_one (ps_for PassesOwn.never rfl (pi_list (pe_callB (cr_sortedTx rfl) (by rfl) B.sorted (by decide +kernel) (pa_cons (pe_callTy (call_set_tx rfl) (by rfl) B.set (by decide +kernel) (pa_cons (pe_op op_add_str (pe_cal C.letters hr (by decide) (pa_cons (pv 0) pa_nil)) (pe_cal C.letters hr (by decide) (pa_cons (pv 1) pa_nil))) pa_nil)) pa_nil))) (pg_name (i := 6) sc_counts_alike.nd rfl (.inl rfl))
          (pss_one (ps_if (pt_cmpR op_ne (pe_cal C.amount_of hr (by decide) (pa_cons (pv 0) (pa_cons (pe_ix (r := rIxL K) ix_list (pv 3) (pv 5) (fun _ _ => rfl)) (pa_cons (pv 6) pa_nil)))) (pe_cal C.amount_of hr (by decide) (pa_cons (pv 1) (pa_cons (pe_ix (r := rIxL K) ix_list (pv 4) (pv 5) (fun _ _ => rfl)) (pa_cons (pv 6) pa_nil)))) (nomark _))
            (pss_one (ps_ret (pe_tup (pa_cons pe_str (pa_cons (pv 5) (pa_cons (pv 6) pa_nil))))))
            pss_nil)))))
      (pss_one (ps_ret (pe_tup (pa_cons pe_str (pa_cons (pe_cal C.tie hr (by decide) (pa_cons (pv 0) (pa_cons (pv 1) pa_nil))) pa_nil))))))))), ?_⟩
    refine ⟨.ref a, rfl, .ref a', rfl, a, a', b, b', rfl, hb, hb', by omega, by omega, fun H1 s1 => ?_⟩
    refine ⟨.ref a, rfl, .int (b.k + b'.k : Nat), rfl, a, b, b.k + b'.k, rfl, s1.book hb, ok, by omega, fun H2 p s2 np hp => ?_⟩
    have s02 := s1.trans s2
    refine ⟨.ref a', rfl, .int (b.k + b'.k : Nat), rfl, a', b', b.k + b'.k, rfl, s02.book hb', ok', by omega, fun H3 p' s3 np' hp' => ?_⟩
    have s03 := s02.trans s3
    have mp3 := s3.mp hp.mp
    have mp3' := hp'.mp
    obtain ⟨as, as1, as2, as3⟩ := mp3
    obtain ⟨bs, bs1, bs2, bs3⟩ := mp3'
    refine ⟨.int (b.k + b'.k : Nat), rfl, ((b.k + b'.k : Nat) : Int), rfl, by omega, by omega, ?_⟩
    rw [Int.toNat_natCast]
    refine for_it (walk_range (lo := 0) (n := b.k + b'.k)) (fun i σ H' => ∃ y5 y6, σ = [some (.ref a), some (.ref a'), some (.int (b.k + b'.k : Nat)), some (.ref p), some (.ref p'), y5, y6] ∧ Same H3 H' ∧
      ∀ m, m < i → ∀ c, amtAt b.sg (b.cnt m) c = amtAt b'.sg (b'.cnt m) c) ⟨_, _, rfl, Same.refl _, fun m hm => by omega⟩ (fun _ _ _ _ _ => trivial) ?_ ?_
    · rintro i x σ H4 H5 hi ⟨y5, y6, rfl, s4, he⟩ ⟨rfl, ex⟩
      obtain rfl : x = .int i := by rw [ex]; exact congrArg V.int (Int.zero_add _)
      have s04 := s03.trans s4
      refine ⟨.ref a, rfl, a, b, rfl, s04.book hb, by omega, fun H6 s6 => ?_⟩
      refine ⟨.ref a', rfl, a', b', rfl, (s04.trans s6).book hb', by omega, fun H7 s7 => ?_⟩
      have s07 := (s4.trans s6).trans s7
      have lsg : b.sg.length = b.k := List.length_map _
      have lsg' : b'.sg.length = b'.k := List.length_map _
      refine ⟨_, _, rfl, rfl, sz_le (by rw [sOf_len, sOf_len]; omega), ?_⟩
      rw [sOf_add]
      have szl : (sOf (b.sg ++ b'.sg)).cps.size = b.k + b'.k := by
        have := sOf_len (b.sg ++ b'.sg)
        rw [List.length_append, lsg, lsg'] at this
        exact this
      refine ⟨_, rfl, by rw [szl]; omega, fun S nS => ?_⟩
      have s8 := same_upd (o := TxO P w S (signsTo (sOf (b.sg ++ b'.sg)) (sOf (b.sg ++ b'.sg)).cps.size)) nS
      have lsi := signsTo_len (sOf (b.sg ++ b'.sg)) (sOf (b.sg ++ b'.sg)).cps.size
      refine ⟨S, _, rfl, upd_same, by omega, fun ys Z mm ly nZ => ?_⟩
      have s9 := same_upd (o := .lst (ys.map V.str)) nZ
      have s39 := (s07.trans s8).trans s9
      refine ⟨Z, rfl, ⟨_, .inl (.inl upd_same)⟩, ?_⟩
      have lf : (b.firsts (b.k + b'.k)).length = b.k + b'.k := by unfold Bk.firsts; rw [List.length_map, List.length_range]
      have lf' : (b'.firsts (b.k + b'.k)).length = b.k + b'.k := by unfold Bk.firsts; rw [List.length_map, List.length_range]
      have ia : i < as.length := by omega
      have ib : i < bs.length := by omega
      have ra := as3 i _ (List.getElem?_eq_getElem ia)
      have rb := bs3 i _ (List.getElem?_eq_getElem ib)
      have rowE : ∀ b0 : Bk, row (b0.firsts (b.k + b'.k)) i = b0.cnt i := fun b0 => by
        unfold Bk.firsts
        rw [row, List.getD_eq_getElem?_getD, List.getElem?_map, List.getElem?_range hi]; rfl
      rw [rowE] at ra rb
      refine for_it (walk_list (xs := ys.map V.str)) (fun j σ H' => ∃ y6, σ = [some (.ref a), some (.ref a'), some (.int (b.k + b'.k : Nat)), some (.ref p), some (.ref p'), some (.int i), y6] ∧ Same H3 H' ∧ H' Z = some (.lst (ys.map V.str)) ∧
        ∀ c, sOf [c] ∈ ys.take j → amtAt b.sg (b.cnt i) c = amtAt b'.sg (b'.cnt i) c) ⟨_, rfl, s39, upd_same, fun c hc => by simp at hc⟩ (fun j σ H' _ h => by obtain ⟨_, _, _, h, _⟩ := h; exact .inl (.inl h)) ?_ ?_
      · rintro j x σ HA HB hj ⟨y6, rfl, s3A, hZ, ha⟩ ⟨rfl, hx⟩
        rw [List.length_map] at hj
        rw [List.getElem?_map, List.getElem?_eq_getElem hj] at hx
        obtain rfl : V.str ys[j] = x := Option.some.inj hx
        obtain ⟨c, hc, ec⟩ := mem_signs.mp ((mm _).mp (List.getElem_mem hj))
        have takeS : ys.take (j + 1) = ys.take j ++ [sOf [c]] := by rw [List.take_add_one, List.getElem?_eq_getElem hj, ec]; rfl
        rw [ec]
        refine ⟨.ref a, rfl, .ref p, rfl, .int i, rfl, p, _, i, .ref as[i], rfl, rfl, s3A.seq (.inl (.inl as1)), atI_nat (by rw [List.getElem?_map, List.getElem?_eq_getElem ia]; rfl), sg1 c, rfl, a, as[i], b, b.cnt i, c, rfl, (s03.trans s3A).book hb, by omega, ok.nd, s3A.seq (.inl (.inl ra)), b.cnt_len i, fun HC sC => ?_⟩
        have s3C := s3A.trans sC
        refine ⟨.ref a', rfl, .ref p', rfl, .int i, rfl, p', _, i, .ref bs[i], rfl, rfl, s3C.seq (.inl (.inl bs1)), atI_nat (by rw [List.getElem?_map, List.getElem?_eq_getElem ib]; rfl), sg1 c, rfl, a', bs[i], b', b'.cnt i, c, rfl, (s03.trans s3C).book hb', by omega, ok'.nd, s3C.seq (.inl (.inl rb)), b'.cnt_len i, fun HD sD => ?_⟩
        have s3D := s3C.trans sD
        refine ⟨rfl, _, rfl, ?_⟩
        by_cases h0 : V.int (amtAt b.sg (b.cnt i) c) = V.int (amtAt b'.sg (b'.cnt i) c)
        · rw [decide_eq_true h0]
          refine iteF ⟨_, rfl, s3D, sD _ _ (sC _ _ hZ), fun d hd => ?_⟩
          rw [takeS] at hd
          rcases List.mem_append.mp hd with h | h
          · exact ha d h
          · rw [List.mem_singleton] at h
            have e2 := (List.cons.inj (sOf_inj h)).1
            rw [e2]
            exact V.int.inj h0
        · rw [decide_eq_false h0]
          refine iteT ⟨.int i, rfl, sg1 c, rfl, sz_le (by show 3 ≤ 1000000; decide), fun t nt => ?_⟩
          exact q1 _ t i (sg1 c) ((s03.trans s3D).trans (same_upd nt)) upd_same
      · rintro σ HA ⟨y6, rfl, s3A, hZ, ha⟩
        rw [List.length_map, List.take_length] at ha
        refine ⟨_, _, rfl, s3A, fun m hm c => ?_⟩
        by_cases em : m = i
        · subst em
          by_cases hc : c ∈ b.sg ++ b'.sg
          · exact ha c ((mm _).mpr (mem_signs.mpr ⟨c, hc, rfl⟩))
          · rw [List.mem_append, not_or] at hc
            rw [amt_out _ hc.1, amt_out _ hc.2]
        · exact he m (by omega) c
    · rintro σ H4 ⟨y5, y6, rfl, s4, he⟩
      have s04 := s03.trans s4
      refine ⟨.ref a, rfl, .ref a', rfl, a, a', b, b', rfl, s04.book hb, s04.book hb', ok, ok', fun c T H5 pc s5 npc hpc => ?_⟩
      exact ⟨sz_le (by show 2 ≤ 1000000; decide), fun t nt => q2 _ t pc c ((s04.trans s5).trans (same_upd nt)) T he upd_same⟩
end
end LG

/-! ## W22 -/
set_option maxRecDepth 100000
set_option maxHeartbeats 4000000
namespace LG
open PySem PySem.Spec PyProof.Rows L2

/-! ### like amounts: the plain law -/
def valI (p : Key × V) : Int := match p.2 with
  | .int i => i
  | _ => 0
theorem sum_amtD (l : List Nat) (xs : List Int) : ∀ i, ((amtD l xs i).map valI).sum = sm i (g xs)
  | 0 => rfl
  | i + 1 => by
    rw [amtD_succ, List.map_append, List.sum_append, sum_amtD l xs i]
    show _ = sm i (g xs) + g xs i
    by_cases h : g xs i = 0
    · rw [if_pos h, h]; rfl
    · rw [if_neg h]
      show _ + (g xs i + 0) = _
      omega
theorem amtD_perm {l l' : List Nat} (nd : l.Nodup) (nd' : l'.Nodup) {xs xs' : List Int} (h : ∀ c, amtAt l xs c = amtAt l' xs' c) : (amtD l xs l.length).Perm (amtD l' xs' l'.length) := by
  have n1 := amtD_nodup nd xs l.length (Nat.le_refl _)
  have n2 := amtD_nodup nd' xs' l'.length (Nat.le_refl _)
  have m1 : (amtD l xs l.length).Nodup := List.Pairwise.of_map (fun p : Key × V => p.1) (fun _ _ hne e => hne (congrArg Prod.fst e)) n1
  have m2 : (amtD l' xs' l'.length).Nodup := List.Pairwise.of_map (fun p : Key × V => p.1) (fun _ _ hne e => hne (congrArg Prod.fst e)) n2
  refine (List.perm_ext_iff_of_nodup m1 m2).mpr fun p => ⟨fun hp => ?_, fun hp => ?_⟩
  · exact valV_mem ((amtD_same nd nd' h).2 p hp).1
  · exact valV_mem ((amtD_same nd' nd fun c => (h c).symm).2 p hp).1
theorem perm_sum {l l' : List Int} (p : l.Perm l') : l.sum = l'.sum := by
  induction p with
  | nil => rfl
  | cons x _ ih => rw [List.sum_cons, List.sum_cons, ih]
  | swap x y l => rw [List.sum_cons, List.sum_cons, List.sum_cons, List.sum_cons]; omega
  | trans _ _ h1 h2 => exact h1.trans h2
theorem like_sums {b b' : Bk} (ok : BkOK b) (ok' : BkOK b') {n : Nat} (h : ∀ c, amtAt b.sg (b.cnt n) c = amtAt b'.sg (b'.cnt n) c) : (b.cnt n).sum = (b'.cnt n).sum := by
  have p := perm_sum ((amtD_perm ok.nd ok'.nd h).map valI)
  rw [sum_amtD, sum_amtD] at p
  rw [sum_sm, sum_sm, b.cnt_len, b'.cnt_len]
  have e : b.sg.length = b.k := List.length_map _
  have e' : b'.sg.length = b'.k := List.length_map _
  rw [e, e'] at p
  exact p
theorem amt_goes {b b' : Bk} {cc : List Int} (T : TieOK (bothB b b') (b.k + b'.k) cc) (c : Nat) : Goes cc (fun n => amtAt b.sg (b.cnt n) c) ∧ Goes cc (fun n => amtAt b'.sg (b'.cnt n) c) := by
  have T' : TieOK (both b.rates b.start b'.rates b'.start) (b.start.length + b'.start.length) cc := by rw [b.start_len, b'.start_len]; exact T
  constructor
  · by_cases h : c ∈ b.sg
    · have hj : b.sg.idxOf c < b.start.length := by
        rw [b.start_len]
        have := List.idxOf_lt_length_of_mem h
        rwa [List.length_map] at this
      have e : (fun n => amtAt b.sg (b.cnt n) c) = fun n => g (LG.cnt b.rates b.start n) (b.sg.idxOf c) := funext fun n => by unfold amtAt; rw [if_pos h]
      rw [e]
      exact at_left T' hj
    · have e : (fun n => amtAt b.sg (b.cnt n) c) = fun _ => 0 := funext fun n => amt_out _ h
      rw [e]
      exact zero_goes cc
  · by_cases h : c ∈ b'.sg
    · have hj : b'.sg.idxOf c < b'.start.length := by
        rw [b'.start_len]
        have := List.idxOf_lt_length_of_mem h
        rwa [List.length_map] at this
      have e : (fun n => amtAt b'.sg (b'.cnt n) c) = fun n => g (LG.cnt b'.rates b'.start n) (b'.sg.idxOf c) := funext fun n => by unfold amtAt; rw [if_pos h]
      rw [e]
      exact at_right T' hj
    · have e : (fun n => amtAt b'.sg (b'.cnt n) c) = fun _ => 0 := funext fun n => amt_out _ h
      rw [e]
      exact zero_goes cc
theorem amt_ever {b b' : Bk} {cc : List Int} (T : TieOK (bothB b b') (b.k + b'.k) cc) (h : ∀ m, m < b.k + b'.k → ∀ c, amtAt b.sg (b.cnt m) c = amtAt b'.sg (b'.cnt m) c) (n c : Nat) : amtAt b.sg (b.cnt n) c = amtAt b'.sg (b'.cnt n) c :=
  Goes.alike (amt_goes T c).1 (amt_goes T c).2 T.len (fun m hm => h m hm c) n
theorem amt_md {l : List Nat} {xs : List Int} (hl : l.length = xs.length) (N : Int) (c : Nat) : amtAt l (md N xs) c = amtAt l xs c % N := by
  unfold amtAt
  by_cases h : c ∈ l
  · rw [if_pos h, if_pos h, g_md N xs (by rw [← hl]; exact List.idxOf_lt_length_of_mem h)]
  · rw [if_neg h, if_neg h, Int.zero_emod]

theorem DrawnAt.x {K : PySem.W.Frag} {H H' : Hp} {pen t : Addr} {first : List Nat} {ks : Ks} {n : Nat} (h : DrawnAt K H t first ks) (hp : PenAt H pen n) (sx : SameX pen H H') : DrawnAt K H' t first ks := by
  obtain ⟨d, ht, hd⟩ := h
  obtain ⟨z, c, fo, hpen, _⟩ := hp
  have ndp : d ≠ pen := fun e => by rw [e, hpen] at hd; cases hd
  exact ⟨d, SameY.seqT (a := pen) (b := d) (fun c o na _ hc => sx c o na hc) hpen hd ht, sx _ _ ndp hd⟩
theorem DrawnAt.y {K : PySem.W.Frag} {H H' : Hp} {pen t d' : Addr} {first : List Nat} {ks : Ks} {n : Nat} {kv : List (Key × V)} (h : DrawnAt K H t first ks) (hp : PenAt H pen n) (hd' : H d' = some (.dK kv)) (hne : ∀ d, H d = some (.dK (dkv ks)) → SqT K H t [.str (sOf first), .ref d] → d ≠ d') (sy : SameY pen d' H H') : DrawnAt K H' t first ks := by
  obtain ⟨d, ht, hd⟩ := h
  obtain ⟨z, c, fo, hpen, _⟩ := hp
  have ndp : d ≠ pen := fun e => by rw [e, hpen] at hd; cases hd
  exact ⟨d, SameY.seqT sy hpen hd' ht, sy _ _ ndp (hne d hd ht) hd⟩

theorem seqT_x {K : PySem.W.Frag} {H H' : Hp} {pen t : Addr} {xs ys : List V} (hp : H pen = some (.lst ys)) (sx : SameX pen H H') (h : SqT K H t xs) : SqT K H' t xs := by
  rcases h with (h | ⟨o, h⟩) | h
  · exact .inl (.inl (sx _ _ (fun z => by rw [z, hp] at h; cases h) h))
  · exact .inl (.inr ⟨o, sx _ _ (fun z => by rw [z, hp] at h; cases h) h⟩)
  · exact .inr h
theorem BookAt.x {K : PySem.W.Frag} {H H' : Hp} {pen a : Addr} {b : Bk} {n : Nat} (h : BookAt K H a b) (hp : PenAt H pen n) (sx : SameX pen H H') : BookAt K H' a b := by
  obtain ⟨t, rs, h1, h2, h3, h4⟩ := h
  obtain ⟨z, c, fo, hpen, _⟩ := hp
  exact ⟨t, rs, seqT_x hpen sx h1, seqT_x hpen sx h2, h3, fun i r hr => by
    obtain ⟨q, q1, q2⟩ := h4 i r hr
    exact ⟨q, q1, seqT_x hpen sx q2⟩⟩

section
variable {P : Program} {w : World} {K : PySem.W.Frag} {mg : Str → Option Value} {base : Heap} {f : Addr} {fd : FuncData}

/-! ### law -/
structure CLaw (P : Program) (w : World) (K : PySem.W.Frag) (mg : Str → Option Value) (base : Heap) : Prop where
  _law_pen : Cal P w K mg base "_law_pen" ["_law_script", "_law_k"] (spPen K) 1
  _law_take : Cal P w K mg base "_law_take" ["_law_pen_here", "_law_size"] spTake 1
  _law_free : Cal P w K mg base "_law_free" ["_law_pen_here"] (spFree K) 3
  _law_named : Cal P w K mg base "_law_named" ["_law_pen_here", "_law_one"] (spNamed K) 3
  _law_spoiled : Cal P w K mg base "_law_spoiled" ["_law_pen_here", "_law_one"] (spSpoil K) 3
  _law_book : Cal P w K mg base "_law_book" ["_law_one"] (spBook K) 1
  _law_great : Cal P w K mg base "_law_great" ["_law_pen_here", "_law_times"] spGreat 2
  lengths_alike : Cal P w K mg base "lengths_alike" ["one", "other"] (spLengthsAlike K) 8
  _law_lengths_hold : Cal P w K mg base "_law_lengths_hold" ["_law_book_here", "_law_second", "_law_told", "_law_near_age", "_law_age", "_law_number"] (spHold K) 6
  counts_alike : Cal P w K mg base "counts_alike" ["one", "other"] (spCountsAlike K) 7
  _law_amounts : Cal P w K mg base "_law_amounts" ["_law_book_here", "_law_age", "_law_number"] (spAmounts K) 4
abbrev s_law : Stmt := topS 61
theorem sc_law : FnScope ["_law_script", "_law_pen_here", "_law_asks", "_law_spoil", "_law_one", "_law_other", "_law_book_here", "_law_second", "_law_near_age", "_law_age", "_law_number", "_law_told"] ["_law_script"] (defScope s_law) := ⟨rfl, rfl, rfl, by decide +kernel, rfl, by decide +kernel, by decide +kernel⟩
def spLaw (K : PySem.W.Frag) : Sp := fun vs H Q _ => ∃ (a : Addr) (ns : List Int), vs = [.ref a] ∧ SqL K H a (ns.map V.int) ∧ ns.length ≤ 63 ∧ ∀ H', Q (.bl true) H'
theorem ok_law (F : Fun K "law" "law" s_law f fd) (B : Bi mg) (C : CLaw P w K mg base) : FnOk P w K mg base CX0 9 f fd ["_law_script"] (spLaw K) := by
  refine F.ok sc_law (fun vs H Q E h => ?_) (fun cdv A outer s H vs Q E hr h => ?_)
  · obtain ⟨a, ns, rfl, _⟩ := h
    rfl
  · obtain ⟨a, ns, rfl, hS, hl, q⟩ := h
    refine ⟨_, (pss_cons (ps_set (i := 1) sc_law.nd rfl (.inl rfl) (pe_cal C._law_pen hr (by decide) (pa_cons (pv 0) (pa_cons pe_int pa_nil))))
      (pss_cons (ps_set (i := 2) sc_law.nd rfl (.inl rfl) (pe_cal C._law_pen hr (by decide) (pa_cons (pv 0) (pa_cons pe_int pa_nil))))
      (pss_cons (ps_set (i := 3) sc_law.nd rfl (.inl rfl) (pe_cal C._law_take hr (by decide) (pa_cons (pv 1) (pa_cons pe_int pa_nil))))
      (pss_cons (ps_set (i := 4) sc_law.nd rfl (.inl rfl) (pe_cal C._law_free hr (by decide) (pa_cons (pv 1) pa_nil)))
      (pss_cons (ps_set (i := 5) sc_law.nd rfl (.inl rfl) (pe_cal C._law_named hr (by decide) (pa_cons (pv 1) (pa_cons (pv 4) pa_nil))))
      (C8.pss_cut (ps_if (pt_cmpR op_eq (pv 3) pe_int (nomark _))
        (pss_one (ps_expr (pe_cal C._law_spoiled hr (by decide) (pa_cons (pv 1) (pa_cons (pv 5) pa_nil)))))
        pss_nil)
      (pss_cons (ps_par (i := 6) (j := 7) (by rfl) sc_law.nd rfl rfl (by decide) rfl rfl (pa_cons (pe_cal C._law_book hr (by decide) (pa_cons (pv 4) pa_nil)) (pa_cons (pe_cal C._law_book hr (by decide) (pa_cons (pv 5) pa_nil)) pa_nil)) (by rfl))
      (pss_cons (ps_set (i := 8) sc_law.nd rfl (.inl rfl) (pe_ix (r := rIxL K) ix_list (pe_lst (pa_cons pe_int (pa_cons (pe_cal C._law_take hr (by decide) (pa_cons (pv 2) (pa_cons pe_int pa_nil))) pa_nil))) (pe_cal C._law_take hr (by decide) (pa_cons (pv 2) (pa_cons pe_int pa_nil))) (fun _ _ => rfl)))
      (pss_cons (ps_set (i := 9) sc_law.nd rfl (.inl rfl) (pe_op op_mod (pe_cal C._law_great hr (by decide) (pa_cons (pv 2) (pa_cons (pe_ix (r := rIxL K) ix_list (pe_lst (pa_cons pe_int (pa_cons pe_int (pa_cons pe_int pa_nil)))) (pe_cal C._law_take hr (by decide) (pa_cons (pv 2) (pa_cons pe_int pa_nil))) (fun _ _ => rfl)) pa_nil))) (pe_op op_pow pe_int pe_int)))
      (pss_cons (ps_set (i := 10) sc_law.nd rfl (.inl rfl) (pe_op op_add pe_int (pe_op op_mod (pe_cal C._law_great hr (by decide) (pa_cons (pv 2) (pa_cons pe_int pa_nil))) (pe_op op_sub (pe_op op_pow pe_int pe_int) pe_int))))
      (C8.pss_cut (ps_set (i := 11) sc_law.nd rfl (.inl rfl) (pe_cal C.lengths_alike hr (by decide) (pa_cons (pv 6) (pa_cons (pv 7) pa_nil))))
      (C8.pss_cut (ps_if (PW.pt (pw_and (pt_cmpR op_ne (pe_ix (r := rIxT K) ix_tup (pv 11) pe_int (fun _ _ => rfl)) pe_str (nomark _)) (pw_and1 (pt_cmpR op_ne (pe_ix (r := rIxT K) ix_tup (pv 11) pe_int (fun _ _ => rfl)) pe_str (nomark _)))))
        (pss_one (ps_ret pe_bl))
        pss_nil)
      (pss_cons (ps_if (pt_not (pt_val (pe_cal C._law_lengths_hold hr (by decide) (pa_cons (pv 6) (pa_cons (pv 7) (pa_cons (pv 11) (pa_cons (pv 8) (pa_cons (pv 9) (pa_cons (pv 10) pa_nil)))))))))
        (pss_one (ps_ret pe_bl))
        pss_nil)
      (pss_cons (ps_if (pt_cmpR op_eq (pe_ix (r := rIxT K) ix_tup (pe_cal C.counts_alike hr (by decide) (pa_cons (pv 6) (pa_cons (pv 7) pa_nil))) pe_int (fun _ _ => rfl)) pe_str (nomark _))
        (pss_one (ps_ret pe_bl))
        pss_nil)
      (pss_one (ps_ret (pe_and (pe_cmpR op_eq (pe_ix (r := rIxT K) ix_tup (pv 11) pe_int (fun _ _ => rfl)) pe_str (nomark _)) (pe_one (pe_cmpR (op_eq_dictA (Nat.lt_of_succ_lt (hu_of hr))) (pe_cal C._law_amounts hr (by decide) (pa_cons (pv 6) (pa_cons (pv 9) (pa_cons (pv 10) pa_nil)))) (pe_cal C._law_amounts hr (by decide) (pa_cons (pv 7) (pa_cons (pv 9) (pa_cons (pv 10) pa_nil)))) (nomark _)))))))))))))))))))), ?_⟩
    -- the pens
    refine ⟨.ref a, rfl, a, ns, 0, rfl, hS, hl, by decide, fun H1 pen s1 np hp1 => ?_⟩
    refine ⟨.ref a, rfl, a, ns, 1, rfl, s1.seq hS, hl, by decide, fun H2 asks s2 nk ha2 => ?_⟩
    have hp2 := hp1.keep s2
    obtain ⟨po1, hpo1⟩ := hp1.some
    have nap : asks ≠ pen := (ne_of_none hpo1 nk).symm
    refine ⟨.ref pen, rfl, pen, 0, 2, rfl, hp2, by decide, by decide, by decide, fun H3 sp sx3 hp3 sp0 sp1 => ?_⟩
    have ha3 := ha2.other sx3 nap
    refine ⟨.ref pen, rfl, pen, 1, rfl, hp3, by decide, fun H4 t first ks sx4 hp4 dr4 bk => ?_⟩
    have ha4 := ha3.other sx4 nap
    refine ⟨.ref pen, rfl, .ref t, rfl, pen, t, first, ks, 1001, rfl, hp4, by decide, dr4, bk, fun H5 t' d' first' ks' sx5 hp5 nd' ht5 hd5 dok' lf' => ?_⟩
    have ha5 := ha4.other sx5 nap
    have dr5 := dr4.x hp4 sx5
    have nad : asks ≠ d' := by
      obtain ⟨ao, hao⟩ := ha4.some
      exact ne_of_none hao nd'
    refine ⟨fun σ H' => σ = [some (.ref a), some (.ref pen), some (.ref asks), some (.int sp), some (.ref t), some (.ref t'), none, none, none, none, none, none] ∧ PenAt H' asks 0 ∧ DrawnAt K H' t first ks ∧ SqT K H' t' [.str (sOf first'), .ref d'] ∧
      ∃ ks2 : Ks, H' d' = some (.dK (dkv ks2)) ∧ DictOK ks2, ?_, ?_⟩
    · refine ⟨.int sp, rfl, rfl, _, rfl, ite2 (fun h => ?_) (fun h => ?_)⟩
      · refine ⟨.ref pen, rfl, .ref t', rfl, pen, t', d', first', ks', 4001, rfl, hp5, by decide, ht5, hd5, dok', fun H6 ks2 sy hp6 hd6 dok2 => ?_⟩
        refine ⟨rfl, ?_, ?_, ?_, ks2, hd6, dok2⟩
        · obtain ⟨z, c, fo, h1, h2⟩ := ha5
          exact ⟨z, c, fo, sy _ _ nap nad h1, h2⟩
        · obtain ⟨d, ht4, hd4⟩ := dr4
          obtain ⟨z, c, fo, hpen4, _⟩ := id hp4
          obtain ⟨z5, c5, fo5, hpen5, _⟩ := id hp5
          have ndp : d ≠ pen := fun e => by rw [e, hpen4] at hd4; cases hd4
          have ndd : d ≠ d' := ne_of_none hd4 nd'
          have ht5' := SameY.seqT (a := pen) (b := d) (fun c o na _ hc => sx5 c o na hc) hpen4 hd4 ht4
          exact ⟨d, SameY.seqT sy hpen5 hd5 ht5', sy _ _ ndp ndd (sx5 _ _ ndp hd4)⟩
        · obtain ⟨z5, c5, fo5, hpen5, _⟩ := id hp5
          exact SameY.seqT sy hpen5 hd5 ht5
      · exact ⟨rfl, ha5, dr5, ht5, ks', hd5, dok'⟩
    rintro σ H6 ⟨rfl, ha6, dr6, ht6, ks2, hd6, dok2⟩
    -- the books
    refine ⟨.ref t, rfl, t, first, ks, rfl, dr6, bk.toDictOK, bk.lenF, fun H7 p b s7 hb7 ok => ?_⟩
    refine ⟨.ref t', rfl, t', first', ks2, rfl, ⟨d', s7.seqT ht6, s7 _ _ hd6⟩, dok2, lf', fun H8 p' b' s8 hb' ok' => ?_⟩
    have hb := s8.book hb7
    have ha8 := (ha6.keep s7).keep s8
    refine ⟨_, _, rfl, ?_⟩
    -- the near age
    refine ⟨.ref asks, rfl, asks, 0, 301, rfl, ha8, by decide, by decide, by decide, fun H9 u0 sx9 ha9 u00 u01 => ⟨sz_le (by show 2 ≤ 1000000; decide), fun L nL => ?_⟩⟩
    have sL := same_upd (o := .lst [.int 300, .int u0]) nL
    obtain ⟨po9, hpo9⟩ := ha9.some
    have nLk : L ≠ asks := (ne_of_none hpo9 nL).symm
    refine ⟨.ref asks, rfl, asks, 1, 2, rfl, ha9.keep sL, by decide, by decide, by decide, fun H10 i1 sx10 ha10 i10 i11 => ?_⟩
    obtain ⟨mv, mv1, mv2, _⟩ := atI_pick (ms := [.int 300, .int u0]) i10 i11
    obtain ⟨u, rfl, u300⟩ : ∃ u : Nat, mv = .int u ∧ u ≤ 300 := by
      simp only [List.mem_cons, List.not_mem_nil, or_false] at mv2
      rcases mv2 with e | e
      · exact ⟨300, e, by decide⟩
      · exact ⟨u0.toNat, by rw [e]; exact congrArg V.int (by omega), by omega⟩
    refine ⟨L, _, i1, .int u, rfl, rfl, .inl (.inl (sx10 _ _ nLk upd_same)), mv1, ?_⟩
    have hb10 := ((hb.x ha8 sx9).x ha9 sL.toX).x (ha9.keep sL) sx10
    have hb10' := ((hb'.x ha8 sx9).x ha9 sL.toX).x (ha9.keep sL) sx10
    -- the far age
    refine ⟨.ref asks, rfl, sz_le (by show 3 ≤ 1000000; decide), fun L2 nL2 => ?_⟩
    have sL2 := same_upd (o := .lst [.int 2, .int 2, .int 8]) nL2
    obtain ⟨po10, hpo10⟩ := ha10.some
    have nL2k : L2 ≠ asks := (ne_of_none hpo10 nL2).symm
    refine ⟨.ref asks, rfl, asks, 2, 3, rfl, ha10.keep sL2, by decide, by decide, by decide, fun H11 i2 sx11 ha11 i20 i21 => ?_⟩
    obtain ⟨kv, kv1, kv2, _⟩ := atI_pick (ms := [.int 2, .int 2, .int 8]) i20 i21
    obtain ⟨m, rfl, m8⟩ : ∃ m : Nat, kv = .int m ∧ m ≤ 8 := by
      simp only [List.mem_cons, List.not_mem_nil, or_false] at kv2
      rcases kv2 with e | e | e
      · exact ⟨2, e, by decide⟩
      · exact ⟨2, e, by decide⟩
      · exact ⟨8, e, by decide⟩
    refine ⟨L2, _, i2, .int m, rfl, rfl, .inl (.inl (sx11 _ _ nL2k upd_same)), kv1, ?_⟩
    have hb11 := (hb10.x ha10 sL2.toX).x (ha10.keep sL2) sx11
    have hb11' := (hb10'.x ha10 sL2.toX).x (ha10.keep sL2) sx11
    refine ⟨asks, m, 3, rfl, ha11, by decide, by omega, fun H12 v1 sx12 ha12 v10 => ?_⟩
    have hb12 := hb11.x ha11 sx12
    have hb12' := hb11'.x ha11 sx12
    have p60 : (10 : Int) ^ (60 : Int).toNat = 10 ^ 60 := rfl
    have p30 : (10 : Int) ^ (30 : Int).toNat = 10 ^ 30 := rfl
    refine ⟨_, _, rfl, rfl, ⟨by decide, by decide, by decide⟩, _, _, rfl, rfl, (show (0 : Int) < 10 ^ (60 : Int).toNat by decide), ?_⟩
    show gName 9 (V.int (v1 % 10 ^ 60)) _ _ _
    have n0 := Int.emod_nonneg v1 (show (10 : Int) ^ 60 ≠ 0 by decide)
    have n1 := Int.emod_lt_of_pos v1 (show (0 : Int) < 10 ^ 60 by decide)
    obtain ⟨n, hn⟩ := Int.eq_ofNat_of_zero_le n0
    rw [hn] at n1 ⊢
    -- the number
    refine ⟨.ref asks, rfl, asks, 4, 23, rfl, ha12, by decide, by decide, fun H13 v2 sx13 ha13 v20 => ?_⟩
    have hb13 := hb12.x ha12 sx13
    have hb13' := hb12'.x ha12 sx13
    refine ⟨_, _, rfl, rfl, ⟨by decide, by decide, by decide⟩, _, _, rfl, rfl, _, _, rfl, rfl, (show (0 : Int) < 10 ^ (30 : Int).toNat - 1 by decide), _, _, rfl, rfl, ?_⟩
    show gName 10 (V.int (1 + v2 % (10 ^ 30 - 1))) _ _ _
    have w0 := Int.emod_nonneg v2 (show (10 : Int) ^ 30 - 1 ≠ 0 by decide)
    have w1 := Int.emod_lt_of_pos v2 (show (0 : Int) < 10 ^ 30 - 1 by decide)
    have N1 : 1 ≤ 1 + v2 % (10 ^ 30 - 1) := by omega
    have N2 : 1 + v2 % (10 ^ 30 - 1) < 10 ^ 30 := by omega
    generalize 1 + v2 % (10 ^ 30 - 1) = N at N1 N2 ⊢
    clear w0 w1 n0 hn
    have ne : decide (V.str "alike" = V.str "part") = false := str_ne (by decide +kernel)
    -- what is told
    refine ⟨fun σ H' => ∃ tt : Addr, σ = [some (.ref a), some (.ref pen), some (.ref asks), some (.int sp), some (.ref t), some (.ref t'), some (.ref p), some (.ref p'), some (.int u), some (.int n), some (.int N), some (.ref tt)] ∧ Told K H' tt b b' ∧ BookAt K H' p b ∧ BookAt K H' p' b', ?_, ?_⟩
    · refine ⟨.ref p, rfl, .ref p', rfl, p, p', b, b', rfl, hb13, hb13', ok, ok', fun H14 tt n0 s14 hn0 hne heq htt => ?_, fun H14 tt pc c s14 T heq hpc htt => ?_⟩
      · exact ⟨tt, rfl, .inl ⟨n0, hn0, hne, heq, .inl (.inl htt)⟩, s14.book hb13, s14.book hb13'⟩
      · exact ⟨tt, rfl, .inr ⟨pc, c, T, heq, .inl (.inl hpc), .inl (.inl htt)⟩, s14.book hb13, s14.book hb13'⟩
    rintro σ H14 ⟨tt, rfl, told, hb14, hb14'⟩
    refine ⟨fun σ H' => σ = [some (.ref a), some (.ref pen), some (.ref asks), some (.int sp), some (.ref t), some (.ref t'), some (.ref p), some (.ref p'), some (.int u), some (.int n), some (.int N), some (.ref tt)] ∧ H' = H14, ?_, ?_⟩
    · rcases told with ⟨m0, _, _, _, htt⟩ | ⟨pc, c, T, _, _, htt⟩
      · refine ⟨.ref tt, rfl, tt, _, 0, .str "part", rfl, rfl, htt, atI_nat (j := 0) rfl, rfl, _, rfl, ?_⟩
        rw [decide_eq_true rfl]
        exact iteF (iteF ⟨rfl, rfl⟩)
      · refine ⟨.ref tt, rfl, tt, _, 0, .str "alike", rfl, rfl, htt, atI_nat (j := 0) rfl, rfl, _, rfl, ?_⟩
        rw [ne]
        refine iteT ⟨.ref tt, rfl, tt, _, 0, .str "alike", rfl, rfl, htt, atI_nat (j := 0) rfl, rfl, _, rfl, ?_⟩
        rw [decide_eq_true rfl]
        exact iteF ⟨rfl, rfl⟩
    rintro σ H15 ⟨rfl, rfl⟩
    -- the lengths hold
    refine ⟨.ref p, rfl, .ref p', rfl, .ref tt, rfl, .int u, rfl, .int n, rfl, .int N, rfl, p, p', tt, b, b', u, n, N, rfl, hb14, hb14', ok, ok', told, u300, n1, N1, N2, fun H16 s16 => ?_⟩
    refine ⟨true, rfl, iteF ?_⟩
    have hb16 := s16.book hb14
    have hb16' := s16.book hb14'
    -- the counts
    refine ⟨.ref p, rfl, .ref p', rfl, p, p', b, b', rfl, hb16, hb16', ok, ok', fun H17 t0 n0 x0 s17 ht0 => ?_, fun H17 t0 pc cc s17 T he ht0 => ?_⟩
    · refine ⟨t0, _, 0, .str "part", rfl, rfl, .inl (.inl ht0), atI_nat (j := 0) rfl, rfl, _, rfl, ?_⟩
      rw [decide_eq_true rfl]
      exact iteT (q _)
    · refine ⟨t0, _, 0, .str "alike", rfl, rfl, .inl (.inl ht0), atI_nat (j := 0) rfl, rfl, _, rfl, ?_⟩
      rw [ne]
      refine iteF ?_
      have ever := amt_ever T he
      have hb17 := s17.book hb16
      have hb17' := s17.book hb16'
      rcases told with ⟨m0, hm0, hne, _, _⟩ | ⟨pc2, c2, T2, _, _, htt⟩
      · exact absurd (like_sums ok ok' (ever m0)) hne
      have htt17 := s17.seqT (s16.seqT htt)
      refine ⟨.ref tt, rfl, tt, _, 0, .str "alike", rfl, rfl, htt17, atI_nat (j := 0) rfl, rfl, true, by rw [decide_eq_true rfl], iteT ?_⟩
      refine ⟨.ref p, rfl, .int n, rfl, .int N, rfl, p, b, n, N, rfl, hb17, ok, n1, N1, N2, fun H18 d1 s18 hd1 => ?_⟩
      refine ⟨.ref p', rfl, .int n, rfl, .int N, rfl, p', b', n, N, rfl, s18.book hb17', ok', n1, N1, N2, fun H19 d2 s19 hd2 => ?_⟩
      have lsg : b.sg.length = (b.cnt n).length := by rw [b.cnt_len]; exact List.length_map _
      have lsg' : b'.sg.length = (b'.cnt n).length := by rw [b'.cnt_len]; exact List.length_map _
      obtain ⟨e1, e2⟩ := amtD_same ok.nd ok'.nd (xs := md N (b.cnt n)) (xs' := md N (b'.cnt n)) fun c => by rw [amt_md lsg, amt_md lsg', ever n c]
      exact ⟨d1, d2, _, _, rfl, rfl, s19 _ _ hd1, hd2, e1, e2, q _⟩
end
end LG

/-! ## W23 -/
set_option maxRecDepth 100000
set_option maxHeartbeats 4000000
namespace LG
open PySem PySem.Spec PyProof.Rows L2

/-- all the defs as they stand behind the top: the law keeps its promise -/
theorem all_mk {l : PySem.W.OpenLaw} {w : World} {K : PySem.W.Frag} {h : Heap} {mg : Str → Option Value} {fa tT : Addr} {f0 f1 f2 f3 f4 f5 f6 f7 f8 f9 f10 f11 f12 f13 f14 f15 f16 f17 f18 f19 f20 f21 f22 f23 f24 f25 f26 f27 f28 f29 f30 f31 f32 f33 f34 f35 f36 f37 f38 f39 f40 f41 f42 f43 f44 f45 f46 : Addr} (X : K.In h) (G : h.Ns mainGlobals mg) (hfa : mg "law" = some (.ref fa))
    {od0 od1 od2 od3 od4 od5 od6 od7 od8 od9 od10 od11 od12 od13 od14 od15 od16 od17 od18 od19 od20 od21 od22 od23 od24 od25 od26 od27 od28 od29 od30 od31 od32 od33 od34 od35 od36 od37 od38 od39 od40 od41 od42 od43 od44 od45 od46 an0 an1 an2 an3 an4 an5 an6 an7 an8 an9 an10 an11 an12 an13 an14 an15 an16 an17 an18 an19 an20 an21 an22 an23 an24 an25 an26 an27 an28 an29 an30 an31 an32 an33 an34 an35 an36 an37 an38 an39 an40 an41 an42 an43 an44 an45 an46 odT : Option Addr} {sl0 sl1 sl2 sl3 sl4 sl5 sl6 sl7 sl8 sl9 sl10 sl11 sl12 sl13 sl14 sl15 sl16 sl17 sl18 sl19 sl20 sl21 sl22 sl23 sl24 sl25 sl26 sl27 sl28 sl29 sl30 sl31 sl32 sl33 sl34 sl35 sl36 sl37 sl38 sl39 sl40 sl41 sl42 sl43 sl44 sl45 sl46 slT : Array (Option Value)} {oc0 oc1 oc2 oc3 oc4 oc5 oc6 oc7 oc8 oc9 oc10 oc11 oc12 oc13 oc14 oc15 oc16 oc17 oc18 oc19 oc20 oc21 oc22 oc23 oc24 oc25 oc26 oc27 oc28 oc29 oc30 oc31 oc32 oc33 oc34 oc35 oc36 oc37 oc38 oc39 oc40 oc41 oc42 oc43 oc44 oc45 oc46 kV0 kV1 kV2 kV3 kV4 kV5 kV6 kV7 kV8 kV9 kV10 kV11 kV12 kV13 kV14 kV15 kV16 kV17 kV18 kV19 kV20 kV21 kV22 kV23 kV24 kV25 kV26 kV27 kV28 kV29 kV30 kV31 kV32 kV33 kV34 kV35 kV36 kV37 kV38 kV39 kV40 kV41 kV42 kV43 kV44 kV45 kV46 dc0 dc1 dc2 dc3 dc4 dc5 dc6 dc7 dc8 dc9 dc10 dc11 dc12 dc13 dc14 dc15 dc16 dc17 dc18 dc19 dc20 dc21 dc22 dc23 dc24 dc25 dc26 dc27 dc28 dc29 dc30 dc31 dc32 dc33 dc34 dc35 dc36 dc37 dc38 dc39 dc40 dc41 dc42 dc43 dc44 dc45 dc46 pm0 pm1 pm2 pm3 pm4 pm5 pm6 pm7 pm8 pm9 pm10 pm11 pm12 pm13 pm14 pm15 pm16 pm17 pm18 pm19 pm20 pm21 pm22 pm23 pm24 pm25 pm26 pm27 pm28 pm29 pm30 pm31 pm32 pm33 pm34 pm35 pm36 pm37 pm38 pm39 pm40 pm41 pm42 pm43 pm44 pm45 pm46 cd0 cd1 cd2 cd3 cd4 cd5 cd6 cd7 cd8 cd9 cd10 cd11 cd12 cd13 cd14 cd15 cd16 cd17 cd18 cd19 cd20 cd21 cd22 cd23 cd24 cd25 cd26 cd27 cd28 cd29 cd30 cd31 cd32 cd33 cd34 cd35 cd36 cd37 cd38 cd39 cd40 cd41 cd42 cd43 cd44 cd45 cd46 ct0 ct1 ct2 ct3 ct4 ct5 ct6 ct7 ct8 ct9 ct10 ct11 ct12 ct13 ct14 ct15 ct16 ct17 ct18 ct19 ct20 ct21 ct22 ct23 ct24 ct25 ct26 ct27 ct28 ct29 ct30 ct31 ct32 ct33 ct34 ct35 ct36 ct37 ct38 ct39 ct40 ct41 ct42 ct43 ct44 ct45 ct46 ocT : Value} {tl t2 t3 t4 : Tok} {nT : Nat}
    (a0 : PySem.W.nsIn K mainGlobals "_law_pen" = some (some (.ref f0))) (l0 : K.lookup f0 = some ⟨oc0, od0, .func (PySem.W.fnOf "_law_pen" "_law_pen" (defArgs s__law_pen) (defBody s__law_pen) (defScope s__law_pen) .none kV0 dc0 pm0 an0 cd0 ct0), sl0⟩) (c0 : PySem.W.codeIn K cd0 "_law_pen" = true) (k0 : PySem.W.keepIn K (.ref f0) = true)
    (a1 : PySem.W.nsIn K mainGlobals "_law_take" = some (some (.ref f1))) (l1 : K.lookup f1 = some ⟨oc1, od1, .func (PySem.W.fnOf "_law_take" "_law_take" (defArgs s__law_take) (defBody s__law_take) (defScope s__law_take) .none kV1 dc1 pm1 an1 cd1 ct1), sl1⟩) (c1 : PySem.W.codeIn K cd1 "_law_take" = true) (k1 : PySem.W.keepIn K (.ref f1) = true)
    (a2 : PySem.W.nsIn K mainGlobals "_law_mixed" = some (some (.ref f2))) (l2 : K.lookup f2 = some ⟨oc2, od2, .func (PySem.W.fnOf "_law_mixed" "_law_mixed" (defArgs s__law_mixed) (defBody s__law_mixed) (defScope s__law_mixed) .none kV2 dc2 pm2 an2 cd2 ct2), sl2⟩) (c2 : PySem.W.codeIn K cd2 "_law_mixed" = true) (k2 : PySem.W.keepIn K (.ref f2) = true)
    (a3 : PySem.W.nsIn K mainGlobals "_law_text" = some (some (.ref f3))) (l3 : K.lookup f3 = some ⟨oc3, od3, .func (PySem.W.fnOf "_law_text" "_law_text" (defArgs s__law_text) (defBody s__law_text) (defScope s__law_text) .none kV3 dc3 pm3 an3 cd3 ct3), sl3⟩) (c3 : PySem.W.codeIn K cd3 "_law_text" = true) (k3 : PySem.W.keepIn K (.ref f3) = true)
    (a4 : PySem.W.nsIn K mainGlobals "_law_free" = some (some (.ref f4))) (l4 : K.lookup f4 = some ⟨oc4, od4, .func (PySem.W.fnOf "_law_free" "_law_free" (defArgs s__law_free) (defBody s__law_free) (defScope s__law_free) .none kV4 dc4 pm4 an4 cd4 ct4), sl4⟩) (c4 : PySem.W.codeIn K cd4 "_law_free" = true) (k4 : PySem.W.keepIn K (.ref f4) = true)
    (a5 : PySem.W.nsIn K mainGlobals "_law_named" = some (some (.ref f5))) (l5 : K.lookup f5 = some ⟨oc5, od5, .func (PySem.W.fnOf "_law_named" "_law_named" (defArgs s__law_named) (defBody s__law_named) (defScope s__law_named) .none kV5 dc5 pm5 an5 cd5 ct5), sl5⟩) (c5 : PySem.W.codeIn K cd5 "_law_named" = true) (k5 : PySem.W.keepIn K (.ref f5) = true)
    (a6 : PySem.W.nsIn K mainGlobals "_law_spoiled" = some (some (.ref f6))) (l6 : K.lookup f6 = some ⟨oc6, od6, .func (PySem.W.fnOf "_law_spoiled" "_law_spoiled" (defArgs s__law_spoiled) (defBody s__law_spoiled) (defScope s__law_spoiled) .none kV6 dc6 pm6 an6 cd6 ct6), sl6⟩) (c6 : PySem.W.codeIn K cd6 "_law_spoiled" = true) (k6 : PySem.W.keepIn K (.ref f6) = true)
    (a7 : PySem.W.nsIn K mainGlobals "_law_book" = some (some (.ref f7))) (l7 : K.lookup f7 = some ⟨oc7, od7, .func (PySem.W.fnOf "_law_book" "_law_book" (defArgs s__law_book) (defBody s__law_book) (defScope s__law_book) .none kV7 dc7 pm7 an7 cd7 ct7), sl7⟩) (c7 : PySem.W.codeIn K cd7 "_law_book" = true) (k7 : PySem.W.keepIn K (.ref f7) = true)
    (a8 : PySem.W.nsIn K mainGlobals "_law_great" = some (some (.ref f8))) (l8 : K.lookup f8 = some ⟨oc8, od8, .func (PySem.W.fnOf "_law_great" "_law_great" (defArgs s__law_great) (defBody s__law_great) (defScope s__law_great) .none kV8 dc8 pm8 an8 cd8 ct8), sl8⟩) (c8 : PySem.W.codeIn K cd8 "_law_great" = true) (k8 : PySem.W.keepIn K (.ref f8) = true)
    (a9 : PySem.W.nsIn K mainGlobals "letters" = some (some (.ref f9))) (l9 : K.lookup f9 = some ⟨oc9, od9, .func (PySem.W.fnOf "letters" "letters" (defArgs s_letters) (defBody s_letters) (defScope s_letters) .none kV9 dc9 pm9 an9 cd9 ct9), sl9⟩) (c9 : PySem.W.codeIn K cd9 "letters" = true) (k9 : PySem.W.keepIn K (.ref f9) = true)
    (a10 : PySem.W.nsIn K mainGlobals "all_ones" = some (some (.ref f10))) (l10 : K.lookup f10 = some ⟨oc10, od10, .func (PySem.W.fnOf "all_ones" "all_ones" (defArgs s_all_ones) (defBody s_all_ones) (defScope s_all_ones) .none kV10 dc10 pm10 an10 cd10 ct10), sl10⟩) (c10 : PySem.W.codeIn K cd10 "all_ones" = true) (k10 : PySem.W.keepIn K (.ref f10) = true)
    (a11 : PySem.W.nsIn K mainGlobals "both_sizes" = some (some (.ref f11))) (l11 : K.lookup f11 = some ⟨oc11, od11, .func (PySem.W.fnOf "both_sizes" "both_sizes" (defArgs s_both_sizes) (defBody s_both_sizes) (defScope s_both_sizes) .none kV11 dc11 pm11 an11 cd11 ct11), sl11⟩) (c11 : PySem.W.codeIn K cd11 "both_sizes" = true) (k11 : PySem.W.keepIn K (.ref f11) = true)
    (a12 : PySem.W.nsIn K mainGlobals "tally" = some (some (.ref f12))) (l12 : K.lookup f12 = some ⟨oc12, od12, .func (PySem.W.fnOf "tally" "tally" (defArgs s_tally) (defBody s_tally) (defScope s_tally) .none kV12 dc12 pm12 an12 cd12 ct12), sl12⟩) (c12 : PySem.W.codeIn K cd12 "tally" = true) (k12 : PySem.W.keepIn K (.ref f12) = true)
    (a13 : PySem.W.nsIn K mainGlobals "table" = some (some (.ref f13))) (l13 : K.lookup f13 = some ⟨oc13, od13, .func (PySem.W.fnOf "table" "table" (defArgs s_table) (defBody s_table) (defScope s_table) .none kV13 dc13 pm13 an13 cd13 ct13), sl13⟩) (c13 : PySem.W.codeIn K cd13 "table" = true) (k13 : PySem.W.keepIn K (.ref f13) = true)
    (a14 : PySem.W.nsIn K mainGlobals "passed" = some (some (.ref f14))) (l14 : K.lookup f14 = some ⟨oc14, od14, .func (PySem.W.fnOf "passed" "passed" (defArgs s_passed) (defBody s_passed) (defScope s_passed) .none kV14 dc14 pm14 an14 cd14 ct14), sl14⟩) (c14 : PySem.W.codeIn K cd14 "passed" = true) (k14 : PySem.W.keepIn K (.ref f14) = true)
    (a15 : PySem.W.nsIn K mainGlobals "first_counts" = some (some (.ref f15))) (l15 : K.lookup f15 = some ⟨oc15, od15, .func (PySem.W.fnOf "first_counts" "first_counts" (defArgs s_first_counts) (defBody s_first_counts) (defScope s_first_counts) .none kV15 dc15 pm15 an15 cd15 ct15), sl15⟩) (c15 : PySem.W.codeIn K cd15 "first_counts" = true) (k15 : PySem.W.keepIn K (.ref f15) = true)
    (a16 : PySem.W.nsIn K mainGlobals "first_weights" = some (some (.ref f16))) (l16 : K.lookup f16 = some ⟨oc16, od16, .func (PySem.W.fnOf "first_weights" "first_weights" (defArgs s_first_weights) (defBody s_first_weights) (defScope s_first_weights) .none kV16 dc16 pm16 an16 cd16 ct16), sl16⟩) (c16 : PySem.W.codeIn K cd16 "first_weights" = true) (k16 : PySem.W.keepIn K (.ref f16) = true)
    (a17 : PySem.W.nsIn K mainGlobals "joint_counts" = some (some (.ref f17))) (l17 : K.lookup f17 = some ⟨oc17, od17, .func (PySem.W.fnOf "joint_counts" "joint_counts" (defArgs s_joint_counts) (defBody s_joint_counts) (defScope s_joint_counts) .none kV17 dc17 pm17 an17 cd17 ct17), sl17⟩) (c17 : PySem.W.codeIn K cd17 "joint_counts" = true) (k17 : PySem.W.keepIn K (.ref f17) = true)
    (a18 : PySem.W.nsIn K mainGlobals "common" = some (some (.ref f18))) (l18 : K.lookup f18 = some ⟨oc18, od18, .func (PySem.W.fnOf "common" "common" (defArgs s_common) (defBody s_common) (defScope s_common) .none kV18 dc18 pm18 an18 cd18 ct18), sl18⟩) (c18 : PySem.W.codeIn K cd18 "common" = true) (k18 : PySem.W.keepIn K (.ref f18) = true)
    (a19 : PySem.W.nsIn K mainGlobals "lowered" = some (some (.ref f19))) (l19 : K.lookup f19 = some ⟨oc19, od19, .func (PySem.W.fnOf "lowered" "lowered" (defArgs s_lowered) (defBody s_lowered) (defScope s_lowered) .none kV19 dc19 pm19 an19 cd19 ct19), sl19⟩) (c19 : PySem.W.codeIn K cd19 "lowered" = true) (k19 : PySem.W.keepIn K (.ref f19) = true)
    (a20 : PySem.W.nsIn K mainGlobals "cleared" = some (some (.ref f20))) (l20 : K.lookup f20 = some ⟨oc20, od20, .func (PySem.W.fnOf "cleared" "cleared" (defArgs s_cleared) (defBody s_cleared) (defScope s_cleared) .none kV20 dc20 pm20 an20 cd20 ct20), sl20⟩) (c20 : PySem.W.codeIn K cd20 "cleared" = true) (k20 : PySem.W.keepIn K (.ref f20) = true)
    (a21 : PySem.W.nsIn K mainGlobals "lead_of" = some (some (.ref f21))) (l21 : K.lookup f21 = some ⟨oc21, od21, .func (PySem.W.fnOf "lead_of" "lead_of" (defArgs s_lead_of) (defBody s_lead_of) (defScope s_lead_of) .none kV21 dc21 pm21 an21 cd21 ct21), sl21⟩) (c21 : PySem.W.codeIn K cd21 "lead_of" = true) (k21 : PySem.W.keepIn K (.ref f21) = true)
    (a22 : PySem.W.nsIn K mainGlobals "first_tie" = some (some (.ref f22))) (l22 : K.lookup f22 = some ⟨oc22, od22, .func (PySem.W.fnOf "first_tie" "first_tie" (defArgs s_first_tie) (defBody s_first_tie) (defScope s_first_tie) .none kV22 dc22 pm22 an22 cd22 ct22), sl22⟩) (c22 : PySem.W.codeIn K cd22 "first_tie" = true) (k22 : PySem.W.keepIn K (.ref f22) = true)
    (a23 : PySem.W.nsIn K mainGlobals "tie" = some (some (.ref f23))) (l23 : K.lookup f23 = some ⟨oc23, od23, .func (PySem.W.fnOf "tie" "tie" (defArgs s_tie) (defBody s_tie) (defScope s_tie) (.ref tT) kV23 dc23 pm23 an23 cd23 ct23), sl23⟩) (c23 : PySem.W.codeIn K cd23 "tie" = true) (k23 : PySem.W.keepIn K (.ref f23) = true)
    (lT : K.lookup tT = some ⟨ocT, odT, .seq #[Value.none] nT, slT⟩)
    (a24 : PySem.W.nsIn K mainGlobals "weights_alike" = some (some (.ref f24))) (l24 : K.lookup f24 = some ⟨oc24, od24, .func (PySem.W.fnOf "weights_alike" "weights_alike" (defArgs s_weights_alike) (defBody s_weights_alike) (defScope s_weights_alike) .none kV24 dc24 pm24 an24 cd24 ct24), sl24⟩) (c24 : PySem.W.codeIn K cd24 "weights_alike" = true) (k24 : PySem.W.keepIn K (.ref f24) = true)
    (a25 : PySem.W.nsIn K mainGlobals "lengths_alike" = some (some (.ref f25))) (l25 : K.lookup f25 = some ⟨oc25, od25, .func (PySem.W.fnOf "lengths_alike" "lengths_alike" (defArgs s_lengths_alike) (defBody s_lengths_alike) (defScope s_lengths_alike) .none kV25 dc25 pm25 an25 cd25 ct25), sl25⟩) (c25 : PySem.W.codeIn K cd25 "lengths_alike" = true) (k25 : PySem.W.keepIn K (.ref f25) = true)
    (a26 : PySem.W.nsIn K mainGlobals "is_whole" = some (some (.ref f26))) (l26 : K.lookup f26 = some ⟨oc26, od26, .func (PySem.W.fnOf "is_whole" "is_whole" (defArgs s_is_whole) (defBody s_is_whole) (defScope s_is_whole) .none kV26 dc26 pm26 an26 cd26 ct26), sl26⟩) (c26 : PySem.W.codeIn K cd26 "is_whole" = true) (k26 : PySem.W.keepIn K (.ref f26) = true)
    (a27 : PySem.W.nsIn K mainGlobals "need_age" = some (some (.ref f27))) (l27 : K.lookup f27 = some ⟨oc27, od27, .func (PySem.W.fnOf "need_age" "need_age" (defArgs s_need_age) (defBody s_need_age) (defScope s_need_age) .none kV27 dc27 pm27 an27 cd27 ct27), sl27⟩) (c27 : PySem.W.codeIn K cd27 "need_age" = true) (k27 : PySem.W.keepIn K (.ref f27) = true)
    (a28 : PySem.W.nsIn K mainGlobals "counts_from" = some (some (.ref f28))) (l28 : K.lookup f28 = some ⟨oc28, od28, .func (PySem.W.fnOf "counts_from" "counts_from" (defArgs s_counts_from) (defBody s_counts_from) (defScope s_counts_from) .none kV28 dc28 pm28 an28 cd28 ct28), sl28⟩) (c28 : PySem.W.codeIn K cd28 "counts_from" = true) (k28 : PySem.W.keepIn K (.ref f28) = true)
    (a29 : PySem.W.nsIn K mainGlobals "counts" = some (some (.ref f29))) (l29 : K.lookup f29 = some ⟨oc29, od29, .func (PySem.W.fnOf "counts" "counts" (defArgs s_counts) (defBody s_counts) (defScope s_counts) .none kV29 dc29 pm29 an29 cd29 ct29), sl29⟩) (c29 : PySem.W.codeIn K cd29 "counts" = true) (k29 : PySem.W.keepIn K (.ref f29) = true)
    (a30 : PySem.W.nsIn K mainGlobals "length" = some (some (.ref f30))) (l30 : K.lookup f30 = some ⟨oc30, od30, .func (PySem.W.fnOf "length" "length" (defArgs s_length) (defBody s_length) (defScope s_length) .none kV30 dc30 pm30 an30 cd30 ct30), sl30⟩) (c30 : PySem.W.codeIn K cd30 "length" = true) (k30 : PySem.W.keepIn K (.ref f30) = true)
    (a31 : PySem.W.nsIn K mainGlobals "need_far" = some (some (.ref f31))) (l31 : K.lookup f31 = some ⟨oc31, od31, .func (PySem.W.fnOf "need_far" "need_far" (defArgs s_need_far) (defBody s_need_far) (defScope s_need_far) .none kV31 dc31 pm31 an31 cd31 ct31), sl31⟩) (c31 : PySem.W.codeIn K cd31 "need_far" = true) (k31 : PySem.W.keepIn K (.ref f31) = true)
    (a32 : PySem.W.nsIn K mainGlobals "led" = some (some (.ref f32))) (l32 : K.lookup f32 = some ⟨oc32, od32, .func (PySem.W.fnOf "led" "led" (defArgs s_led) (defBody s_led) (defScope s_led) .none kV32 dc32 pm32 an32 cd32 ct32), sl32⟩) (c32 : PySem.W.codeIn K cd32 "led" = true) (k32 : PySem.W.keepIn K (.ref f32) = true)
    (a33 : PySem.W.nsIn K mainGlobals "laid" = some (some (.ref f33))) (l33 : K.lookup f33 = some ⟨oc33, od33, .func (PySem.W.fnOf "laid" "laid" (defArgs s_laid) (defBody s_laid) (defScope s_laid) .none kV33 dc33 pm33 an33 cd33 ct33), sl33⟩) (c33 : PySem.W.codeIn K cd33 "laid" = true) (k33 : PySem.W.keepIn K (.ref f33) = true)
    (a34 : PySem.W.nsIn K mainGlobals "counts_at" = some (some (.ref f34))) (l34 : K.lookup f34 = some ⟨oc34, od34, .func (PySem.W.fnOf "counts_at" "counts_at" (defArgs s_counts_at) (defBody s_counts_at) (defScope s_counts_at) .none kV34 dc34 pm34 an34 cd34 ct34), sl34⟩) (c34 : PySem.W.codeIn K cd34 "counts_at" = true) (k34 : PySem.W.keepIn K (.ref f34) = true)
    (a35 : PySem.W.nsIn K mainGlobals "length_at" = some (some (.ref f35))) (l35 : K.lookup f35 = some ⟨oc35, od35, .func (PySem.W.fnOf "length_at" "length_at" (defArgs s_length_at) (defBody s_length_at) (defScope s_length_at) .none kV35 dc35 pm35 an35 cd35 ct35), sl35⟩) (c35 : PySem.W.codeIn K cd35 "length_at" = true) (k35 : PySem.W.keepIn K (.ref f35) = true)
    (a36 : PySem.W.nsIn K mainGlobals "is_row" = some (some (.ref f36))) (l36 : K.lookup f36 = some ⟨oc36, od36, .func (PySem.W.fnOf "is_row" "is_row" (defArgs s_is_row) (defBody s_is_row) (defScope s_is_row) .none kV36 dc36 pm36 an36 cd36 ct36), sl36⟩) (c36 : PySem.W.codeIn K cd36 "is_row" = true) (k36 : PySem.W.keepIn K (.ref f36) = true)
    (a37 : PySem.W.nsIn K mainGlobals "stepped" = some (some (.ref f37))) (l37 : K.lookup f37 = some ⟨oc37, od37, .func (PySem.W.fnOf "stepped" "stepped" (defArgs s_stepped) (defBody s_stepped) (defScope s_stepped) .none kV37 dc37 pm37 an37 cd37 ct37), sl37⟩) (c37 : PySem.W.codeIn K cd37 "stepped" = true) (k37 : PySem.W.keepIn K (.ref f37) = true)
    (a38 : PySem.W.nsIn K mainGlobals "joined" = some (some (.ref f38))) (l38 : K.lookup f38 = some ⟨oc38, od38, .func (PySem.W.fnOf "joined" "joined" (defArgs s_joined) (defBody s_joined) (defScope s_joined) .none kV38 dc38 pm38 an38 cd38 ct38), sl38⟩) (c38 : PySem.W.codeIn K cd38 "joined" = true) (k38 : PySem.W.keepIn K (.ref f38) = true)
    (a39 : PySem.W.nsIn K mainGlobals "bits_of" = some (some (.ref f39))) (l39 : K.lookup f39 = some ⟨oc39, od39, .func (PySem.W.fnOf "bits_of" "bits_of" (defArgs s_bits_of) (defBody s_bits_of) (defScope s_bits_of) .none kV39 dc39 pm39 an39 cd39 ct39), sl39⟩) (c39 : PySem.W.codeIn K cd39 "bits_of" = true) (k39 : PySem.W.keepIn K (.ref f39) = true)
    (a40 : PySem.W.nsIn K mainGlobals "unwound" = some (some (.ref f40))) (l40 : K.lookup f40 = some ⟨oc40, od40, .func (PySem.W.fnOf "unwound" "unwound" (defArgs s_unwound) (defBody s_unwound) (defScope s_unwound) .none kV40 dc40 pm40 an40 cd40 ct40), sl40⟩) (c40 : PySem.W.codeIn K cd40 "unwound" = true) (k40 : PySem.W.keepIn K (.ref f40) = true)
    (a41 : PySem.W.nsIn K mainGlobals "_law_kept" = some (some (.ref f41))) (l41 : K.lookup f41 = some ⟨oc41, od41, .func (PySem.W.fnOf "_law_kept" "_law_kept" (defArgs s__law_kept) (defBody s__law_kept) (defScope s__law_kept) .none kV41 dc41 pm41 an41 cd41 ct41), sl41⟩) (c41 : PySem.W.codeIn K cd41 "_law_kept" = true) (k41 : PySem.W.keepIn K (.ref f41) = true)
    (a42 : PySem.W.nsIn K mainGlobals "_law_lengths_hold" = some (some (.ref f42))) (l42 : K.lookup f42 = some ⟨oc42, od42, .func (PySem.W.fnOf "_law_lengths_hold" "_law_lengths_hold" (defArgs s__law_lengths_hold) (defBody s__law_lengths_hold) (defScope s__law_lengths_hold) .none kV42 dc42 pm42 an42 cd42 ct42), sl42⟩) (c42 : PySem.W.codeIn K cd42 "_law_lengths_hold" = true) (k42 : PySem.W.keepIn K (.ref f42) = true)
    (a43 : PySem.W.nsIn K mainGlobals "amount_of" = some (some (.ref f43))) (l43 : K.lookup f43 = some ⟨oc43, od43, .func (PySem.W.fnOf "amount_of" "amount_of" (defArgs s_amount_of) (defBody s_amount_of) (defScope s_amount_of) .none kV43 dc43 pm43 an43 cd43 ct43), sl43⟩) (c43 : PySem.W.codeIn K cd43 "amount_of" = true) (k43 : PySem.W.keepIn K (.ref f43) = true)
    (a44 : PySem.W.nsIn K mainGlobals "counts_alike" = some (some (.ref f44))) (l44 : K.lookup f44 = some ⟨oc44, od44, .func (PySem.W.fnOf "counts_alike" "counts_alike" (defArgs s_counts_alike) (defBody s_counts_alike) (defScope s_counts_alike) .none kV44 dc44 pm44 an44 cd44 ct44), sl44⟩) (c44 : PySem.W.codeIn K cd44 "counts_alike" = true) (k44 : PySem.W.keepIn K (.ref f44) = true)
    (a45 : PySem.W.nsIn K mainGlobals "_law_amounts" = some (some (.ref f45))) (l45 : K.lookup f45 = some ⟨oc45, od45, .func (PySem.W.fnOf "_law_amounts" "_law_amounts" (defArgs s__law_amounts) (defBody s__law_amounts) (defScope s__law_amounts) .none kV45 dc45 pm45 an45 cd45 ct45), sl45⟩) (c45 : PySem.W.codeIn K cd45 "_law_amounts" = true) (k45 : PySem.W.keepIn K (.ref f45) = true)
    (a46 : PySem.W.nsIn K mainGlobals "law" = some (some (.ref f46))) (l46 : K.lookup f46 = some ⟨oc46, od46, .func (PySem.W.fnOf "law" "law" (defArgs s_law) (defBody s_law) (defScope s_law) .none kV46 dc46 pm46 an46 cd46 ct46), sl46⟩) (c46 : PySem.W.codeIn K cd46 "law" = true) (k46 : PySem.W.keepIn K (.ref f46) = true)
    (z_len : PySem.W.nsIn K mainGlobals "len" = some none)
    (z_range : PySem.W.nsIn K mainGlobals "range" = some none)
    (z_enumerate : PySem.W.nsIn K mainGlobals "enumerate" = some none)
    (z_zip : PySem.W.nsIn K mainGlobals "zip" = some none)
    (z_sum : PySem.W.nsIn K mainGlobals "sum" = some none)
    (z_isinstance : PySem.W.nsIn K mainGlobals "isinstance" = some none)
    (z_int : PySem.W.nsIn K mainGlobals "int" = some none)
    (z_bool : PySem.W.nsIn K mainGlobals "bool" = some none)
    (z_str : PySem.W.nsIn K mainGlobals "str" = some none)
    (z_list : PySem.W.nsIn K mainGlobals "list" = some none)
    (z_tuple : PySem.W.nsIn K mainGlobals "tuple" = some none)
    (z_sorted : PySem.W.nsIn K mainGlobals "sorted" = some none)
    (z_set : PySem.W.nsIn K mainGlobals "set" = some none)
    (z_min : PySem.W.nsIn K mainGlobals "min" = some none)
    (z_reversed : PySem.W.nsIn K mainGlobals "reversed" = some none)
    (z_abs : PySem.W.nsIn K mainGlobals "abs" = some none)
    (z_LAST_AGE : PySem.W.nsIn K mainGlobals "LAST_AGE" = some (some (.int 300 tl)))
    (z_FAR_AGE : PySem.W.nsIn K mainGlobals "FAR_AGE" = some (some (.int (10 ^ 60) t2)))
    (z_GREAT_NUMBER : PySem.W.nsIn K mainGlobals "GREAT_NUMBER" = some (some (.int (10 ^ 30) t3)))
    (z_MOST_TIE : PySem.W.nsIn K mainGlobals "MOST_TIE" = some (some (.int 16 t4))) :
    ∃ fd : FuncData, (∀ (s : Shared) (v : Value), BindsTo s fd ⟨[v], []⟩ [("_law_script", v)]) ∧ ∀ base : Heap, K.In base → base.Ns mainGlobals mg → FnOk l.prog w K mg base CX0 9 fa fd ["_law_script"] (spLaw K) := by
  have e := hfa.symm.trans (PySem.W.mg_of X G a46)
  cases e
  have B : Bi mg := ⟨PySem.W.mg_none_of X G z_len, PySem.W.mg_none_of X G z_range, PySem.W.mg_none_of X G z_enumerate, PySem.W.mg_none_of X G z_zip, PySem.W.mg_none_of X G z_sum, PySem.W.mg_none_of X G z_isinstance, PySem.W.mg_none_of X G z_int, PySem.W.mg_none_of X G z_bool, PySem.W.mg_none_of X G z_str, PySem.W.mg_none_of X G z_list, PySem.W.mg_none_of X G z_tuple, PySem.W.mg_none_of X G z_sorted, PySem.W.mg_none_of X G z_set, PySem.W.mg_none_of X G z_min, PySem.W.mg_none_of X G z_reversed, PySem.W.mg_none_of X G z_abs⟩
  have m_LAST_AGE := PySem.W.mg_of X G z_LAST_AGE
  have m_FAR_AGE := PySem.W.mg_of X G z_FAR_AGE
  have m_GREAT_NUMBER := PySem.W.mg_of X G z_GREAT_NUMBER
  have m_MOST_TIE := PySem.W.mg_of X G z_MOST_TIE
  refine ⟨PySem.W.fnOf "law" "law" (defArgs s_law) (defBody s_law) (defScope s_law) .none kV46 dc46 pm46 an46 cd46 ct46, fun s v => .of_eq rfl, fun base _ _ => ?_⟩
  have F_law_pen := fun_mk (st := s__law_pen) l0 c0 k0
  have b_law_pen : Binds K _ ["_law_script", "_law_k"] [] := F_law_pen.binds (ps := ["_law_script", "_law_k"]) fun _ _ _ _ _ _ us hl => match us, hl with | [_, _], _ => rfl
  have C_law_pen : Cal l.prog w K mg base "_law_pen" ["_law_script", "_law_k"] (spPen K) 1 := ⟨⟨f0, _, ok_law_pen F_law_pen B, PySem.W.mg_of X G a0, k0, b_law_pen⟩⟩
  have F_law_take := fun_mk (st := s__law_take) l1 c1 k1
  have b_law_take : Binds K _ ["_law_pen_here", "_law_size"] [] := F_law_take.binds (ps := ["_law_pen_here", "_law_size"]) fun _ _ _ _ _ _ us hl => match us, hl with | [_, _], _ => rfl
  have C_law_take : Cal l.prog w K mg base "_law_take" ["_law_pen_here", "_law_size"] spTake 1 := ⟨⟨f1, _, ok_law_take F_law_take, PySem.W.mg_of X G a1, k1, b_law_take⟩⟩
  have F_law_mixed := fun_mk (st := s__law_mixed) l2 c2 k2
  have b_law_mixed : Binds K _ ["_law_pen_here", "_law_things"] [] := F_law_mixed.binds (ps := ["_law_pen_here", "_law_things"]) fun _ _ _ _ _ _ us hl => match us, hl with | [_, _], _ => rfl
  have C_law_mixed : Cal l.prog w K mg base "_law_mixed" ["_law_pen_here", "_law_things"] (spMixed K) 2 := ⟨⟨f2, _, ok_law_mixed F_law_mixed B ⟨C_law_take⟩, PySem.W.mg_of X G a2, k2, b_law_mixed⟩⟩
  have F_law_text := fun_mk (st := s__law_text) l3 c3 k3
  have b_law_text : Binds K _ ["_law_pen_here", "_law_signs", "_law_many"] [] := F_law_text.binds (ps := ["_law_pen_here", "_law_signs", "_law_many"]) fun _ _ _ _ _ _ us hl => match us, hl with | [_, _, _], _ => rfl
  have C_law_text : Cal l.prog w K mg base "_law_text" ["_law_pen_here", "_law_signs", "_law_many"] (spText K) 2 := ⟨⟨f3, _, ok_law_text F_law_text B ⟨C_law_take⟩, PySem.W.mg_of X G a3, k3, b_law_text⟩⟩
  have F_law_free := fun_mk (st := s__law_free) l4 c4 k4
  have b_law_free : Binds K _ ["_law_pen_here"] [] := F_law_free.binds (ps := ["_law_pen_here"]) fun _ _ _ _ _ _ us hl => match us, hl with | [_], _ => rfl
  have C_law_free : Cal l.prog w K mg base "_law_free" ["_law_pen_here"] (spFree K) 3 := ⟨⟨f4, _, ok_law_free F_law_free B ⟨C_law_take, C_law_mixed, C_law_text⟩, PySem.W.mg_of X G a4, k4, b_law_free⟩⟩
  have F_law_named := fun_mk (st := s__law_named) l5 c5 k5
  have b_law_named : Binds K _ ["_law_pen_here", "_law_one"] [] := F_law_named.binds (ps := ["_law_pen_here", "_law_one"]) fun _ _ _ _ _ _ us hl => match us, hl with | [_, _], _ => rfl
  have C_law_named : Cal l.prog w K mg base "_law_named" ["_law_pen_here", "_law_one"] (spNamed K) 3 := ⟨⟨f5, _, ok_law_named F_law_named B ⟨C_law_take, C_law_mixed, C_law_text⟩, PySem.W.mg_of X G a5, k5, b_law_named⟩⟩
  have F_law_spoiled := fun_mk (st := s__law_spoiled) l6 c6 k6
  have b_law_spoiled : Binds K _ ["_law_pen_here", "_law_one"] [] := F_law_spoiled.binds (ps := ["_law_pen_here", "_law_one"]) fun _ _ _ _ _ _ us hl => match us, hl with | [_, _], _ => rfl
  have C_law_spoiled : Cal l.prog w K mg base "_law_spoiled" ["_law_pen_here", "_law_one"] (spSpoil K) 3 := ⟨⟨f6, _, ok_law_spoiled F_law_spoiled B ⟨C_law_take, C_law_text⟩, PySem.W.mg_of X G a6, k6, b_law_spoiled⟩⟩
  have F_law_book := fun_mk (st := s__law_book) l7 c7 k7
  have b_law_book : Binds K _ ["_law_one"] [] := F_law_book.binds (ps := ["_law_one"]) fun _ _ _ _ _ _ us hl => match us, hl with | [_], _ => rfl
  have C_law_book : Cal l.prog w K mg base "_law_book" ["_law_one"] (spBook K) 1 := ⟨⟨f7, _, ok_law_book F_law_book B, PySem.W.mg_of X G a7, k7, b_law_book⟩⟩
  have F_law_great := fun_mk (st := s__law_great) l8 c8 k8
  have b_law_great : Binds K _ ["_law_pen_here", "_law_times"] [] := F_law_great.binds (ps := ["_law_pen_here", "_law_times"]) fun _ _ _ _ _ _ us hl => match us, hl with | [_, _], _ => rfl
  have C_law_great : Cal l.prog w K mg base "_law_great" ["_law_pen_here", "_law_times"] spGreat 2 := ⟨⟨f8, _, ok_law_great F_law_great B ⟨C_law_take⟩, PySem.W.mg_of X G a8, k8, b_law_great⟩⟩
  have Fletters := fun_mk (st := s_letters) l9 c9 k9
  have bletters : Binds K _ ["book"] [] := Fletters.binds (ps := ["book"]) fun _ _ _ _ _ _ us hl => match us, hl with | [_], _ => rfl
  have Cletters : Cal l.prog w K mg base "letters" ["book"] (spLetters K) 1 := ⟨⟨f9, _, ok_letters Fletters B, PySem.W.mg_of X G a9, k9, bletters⟩⟩
  have Fall_ones := fun_mk (st := s_all_ones) l10 c10 k10
  have ball_ones : Binds K _ ["book"] [] := Fall_ones.binds (ps := ["book"]) fun _ _ _ _ _ _ us hl => match us, hl with | [_], _ => rfl
  have Call_ones : Cal l.prog w K mg base "all_ones" ["book"] (spAllOnes K) 2 := ⟨⟨f10, _, ok_all_ones Fall_ones ⟨Cletters⟩, PySem.W.mg_of X G a10, k10, ball_ones⟩⟩
  have Fboth_sizes := fun_mk (st := s_both_sizes) l11 c11 k11
  have bboth_sizes : Binds K _ ["one", "other"] [] := Fboth_sizes.binds (ps := ["one", "other"]) fun _ _ _ _ _ _ us hl => match us, hl with | [_, _], _ => rfl
  have Cboth_sizes : Cal l.prog w K mg base "both_sizes" ["one", "other"] (spBothSizes K) 2 := ⟨⟨f11, _, ok_both_sizes Fboth_sizes B ⟨Cletters⟩, PySem.W.mg_of X G a11, k11, bboth_sizes⟩⟩
  have Ftally := fun_mk (st := s_tally) l12 c12 k12
  have btally : Binds K _ ["signs", "text"] [] := Ftally.binds (ps := ["signs", "text"]) fun _ _ _ _ _ _ us hl => match us, hl with | [_, _], _ => rfl
  have Ctally : Cal l.prog w K mg base "tally" ["signs", "text"] spTally 1 := ⟨⟨f12, _, ok_tally Ftally, PySem.W.mg_of X G a12, k12, btally⟩⟩
  have Ftable := fun_mk (st := s_table) l13 c13 k13
  have btable : Binds K _ ["book"] [] := Ftable.binds (ps := ["book"]) fun _ _ _ _ _ _ us hl => match us, hl with | [_], _ => rfl
  have Ctable : Cal l.prog w K mg base "table" ["book"] (spTable K) 2 := ⟨⟨f13, _, ok_table Ftable B ⟨Cletters, Ctally⟩, PySem.W.mg_of X G a13, k13, btable⟩⟩
  have Fpassed := fun_mk (st := s_passed) l14 c14 k14
  have bpassed : Binds K _ ["rates", "amounts"] [] := Fpassed.binds (ps := ["rates", "amounts"]) fun _ _ _ _ _ _ us hl => match us, hl with | [_, _], _ => rfl
  have Cpassed : Cal l.prog w K mg base "passed" ["rates", "amounts"] (spPassed K) 1 := ⟨⟨f14, _, ok_passed Fpassed B, PySem.W.mg_of X G a14, k14, bpassed⟩⟩
  have Ffirst_counts := fun_mk (st := s_first_counts) l15 c15 k15
  have bfirst_counts : Binds K _ ["book", "many"] [] := Ffirst_counts.binds (ps := ["book", "many"]) fun _ _ _ _ _ _ us hl => match us, hl with | [_, _], _ => rfl
  have Cfirst_counts : Cal l.prog w K mg base "first_counts" ["book", "many"] (spFirstCounts K) 3 := ⟨⟨f15, _, ok_first_counts Ffirst_counts B ⟨Ctable, Ctally, Cletters, Cpassed⟩, PySem.W.mg_of X G a15, k15, bfirst_counts⟩⟩
  have Ffirst_weights := fun_mk (st := s_first_weights) l16 c16 k16
  have bfirst_weights : Binds K _ ["book", "weights", "many"] [] := Ffirst_weights.binds (ps := ["book", "weights", "many"]) fun _ _ _ _ _ _ us hl => match us, hl with | [_, _, _], _ => rfl
  have Cfirst_weights : Cal l.prog w K mg base "first_weights" ["book", "weights", "many"] (spFirstWeights K) 4 := ⟨⟨f16, _, ok_first_weights Ffirst_weights B ⟨Cfirst_counts⟩, PySem.W.mg_of X G a16, k16, bfirst_weights⟩⟩
  have Fjoint_counts := fun_mk (st := s_joint_counts) l17 c17 k17
  have bjoint_counts : Binds K _ ["one", "other", "many"] [] := Fjoint_counts.binds (ps := ["one", "other", "many"]) fun _ _ _ _ _ _ us hl => match us, hl with | [_, _, _], _ => rfl
  have Cjoint_counts : Cal l.prog w K mg base "joint_counts" ["one", "other", "many"] (spJoint K) 4 := ⟨⟨f17, _, ok_joint_counts Fjoint_counts B ⟨Cfirst_counts⟩, PySem.W.mg_of X G a17, k17, bjoint_counts⟩⟩
  have Fcommon := fun_mk (st := s_common) l18 c18 k18
  have bcommon : Binds K _ ["one", "other"] [] := Fcommon.binds (ps := ["one", "other"]) fun _ _ _ _ _ _ us hl => match us, hl with | [_, _], _ => rfl
  have Ccommon : Cal l.prog w K mg base "common" ["one", "other"] spCommon 1 := ⟨⟨f18, _, ok_common Fcommon B, PySem.W.mg_of X G a18, k18, bcommon⟩⟩
  have Flowered := fun_mk (st := s_lowered) l19 c19 k19
  have blowered : Binds K _ ["numbers"] [] := Flowered.binds (ps := ["numbers"]) fun _ _ _ _ _ _ us hl => match us, hl with | [_], _ => rfl
  have Clowered : Cal l.prog w K mg base "lowered" ["numbers"] (spLowered K) 2 := ⟨⟨f19, _, ok_lowered Flowered B ⟨Ccommon⟩, PySem.W.mg_of X G a19, k19, blowered⟩⟩
  have Fcleared := fun_mk (st := s_cleared) l20 c20 k20
  have bcleared : Binds K _ ["numbers", "kept"] [] := Fcleared.binds (ps := ["numbers", "kept"]) fun _ _ _ _ _ _ us hl => match us, hl with | [_, _], _ => rfl
  have Ccleared : Cal l.prog w K mg base "cleared" ["numbers", "kept"] (spCleared K) 3 := ⟨⟨f20, _, ok_cleared Fcleared B ⟨Clowered⟩, PySem.W.mg_of X G a20, k20, bcleared⟩⟩
  have Flead_of := fun_mk (st := s_lead_of) l21 c21 k21
  have blead_of : Binds K _ ["numbers"] [] := Flead_of.binds (ps := ["numbers"]) fun _ _ _ _ _ _ us hl => match us, hl with | [_], _ => rfl
  have Clead_of : Cal l.prog w K mg base "lead_of" ["numbers"] (spLeadOf K) 1 := ⟨⟨f21, _, ok_lead_of Flead_of B, PySem.W.mg_of X G a21, k21, blead_of⟩⟩
  have Ffirst_tie := fun_mk (st := s_first_tie) l22 c22 k22
  have bfirst_tie : Binds K _ ["vectors"] [] := Ffirst_tie.binds (ps := ["vectors"]) fun _ _ _ _ _ _ us hl => match us, hl with | [_], _ => rfl
  have Cfirst_tie : Cal l.prog w K mg base "first_tie" ["vectors"] (spFirstTie K) 4 := ⟨⟨f22, _, ok_first_tie Ffirst_tie B ⟨Ccleared, Clead_of⟩, PySem.W.mg_of X G a22, k22, bfirst_tie⟩⟩
  have Ftie : FunD K "tie" "tie" (defArgs s_tie) (defBody s_tie) (defScope s_tie) [.non] [] f23 (PySem.W.fnOf "tie" "tie" (defArgs s_tie) (defBody s_tie) (defScope s_tie) (.ref tT) kV23 dc23 pm23 an23 cd23 ct23) := ⟨⟨oc23, od23, .ref tT, kV23, dc23, pm23, an23, cd23, ct23, sl23, rfl, l23, c23, .inr ⟨by simp, tT, _, [.none], nT, rfl, lT, rfl, .cons rfl .nil⟩, .inl rfl⟩, k23⟩
  have Otie : FnOk l.prog w K mg base CX0 6 f23 (PySem.W.fnOf "tie" "tie" (defArgs s_tie) (defBody s_tie) (defScope s_tie) (.ref tT) kV23 dc23 pm23 an23 cd23 ct23) ["one", "other"] (spTie K) := Ftie.ok sc_tie (fun vs H Q E h => by
    obtain ⟨a, a2, b, b2, rfl, _⟩ := h
    rfl) fun cdv A outer s H vs Q E hr h => by
    obtain ⟨t, h1, h2⟩ := tie_body B ⟨Cletters, Cjoint_counts, Cfirst_tie⟩ hr h
    exact ⟨t, h1.nox, h2⟩
  have btie : Binds K (PySem.W.fnOf "tie" "tie" (defArgs s_tie) (defBody s_tie) (defScope s_tie) (.ref tT) kV23 dc23 pm23 an23 cd23 ct23) ["one", "other"] [] := by
    obtain ⟨ds, hv, hb⟩ := Ftie.binds1 (ps := ["one", "other"]) 2 1 (by simp) rfl fun T kV doc pm an cdv ct us its hu hi => match us, hu, its, hi with | [_, _], _, [_], _ => ⟨_, rfl, rfl⟩
    cases hv
    exact hb
  have Ctie : Cal l.prog w K mg base "tie" ["one", "other"] (spTie K) 6 := ⟨⟨f23, _, Otie, PySem.W.mg_of X G a23, k23, btie⟩⟩
  have Fweights_alike := fun_mk (st := s_weights_alike) l24 c24 k24
  have bweights_alike : Binds K _ ["one", "weights", "other", "others"] [] := Fweights_alike.binds (ps := ["one", "weights", "other", "others"]) fun _ _ _ _ _ _ us hl => match us, hl with | [_, _, _, _], _ => rfl
  have Cweights_alike : Cal l.prog w K mg base "weights_alike" ["one", "weights", "other", "others"] (spWeightsAlike K) 7 := ⟨⟨f24, _, ok_weights_alike Fweights_alike B ⟨Cboth_sizes, Cfirst_weights, Ctie⟩, PySem.W.mg_of X G a24, k24, bweights_alike⟩⟩
  have Flengths_alike := fun_mk (st := s_lengths_alike) l25 c25 k25
  have blengths_alike : Binds K _ ["one", "other"] [] := Flengths_alike.binds (ps := ["one", "other"]) fun _ _ _ _ _ _ us hl => match us, hl with | [_, _], _ => rfl
  have Clengths_alike : Cal l.prog w K mg base "lengths_alike" ["one", "other"] (spLengthsAlike K) 8 := ⟨⟨f25, _, ok_lengths_alike Flengths_alike ⟨Call_ones, Cweights_alike⟩, PySem.W.mg_of X G a25, k25, blengths_alike⟩⟩
  have Fis_whole := fun_mk (st := s_is_whole) l26 c26 k26
  have bis_whole : Binds K _ ["thing"] [] := Fis_whole.binds (ps := ["thing"]) fun _ _ _ _ _ _ us hl => match us, hl with | [_], _ => rfl
  have Cis_whole : Cal l.prog w K mg base "is_whole" ["thing"] spIsWhole 1 := ⟨⟨f26, _, ok_is_whole Fis_whole B, PySem.W.mg_of X G a26, k26, bis_whole⟩⟩
  have Fneed_age := fun_mk (st := s_need_age) l27 c27 k27
  have bneed_age : Binds K _ ["age"] [] := Fneed_age.binds (ps := ["age"]) fun _ _ _ _ _ _ us hl => match us, hl with | [_], _ => rfl
  have Cneed_age : Cal l.prog w K mg base "need_age" ["age"] spNeedAge 2 := ⟨⟨f27, _, ok_need_age Fneed_age ⟨Cis_whole⟩ ⟨⟨_, m_LAST_AGE⟩⟩, PySem.W.mg_of X G a27, k27, bneed_age⟩⟩
  have Fcounts_from := fun_mk (st := s_counts_from) l28 c28 k28
  have bcounts_from : Binds K _ ["rates", "amounts", "age"] [] := Fcounts_from.binds (ps := ["rates", "amounts", "age"]) fun _ _ _ _ _ _ us hl => match us, hl with | [_, _, _], _ => rfl
  have Ccounts_from : Cal l.prog w K mg base "counts_from" ["rates", "amounts", "age"] (spCountsFrom K) 2 := ⟨⟨f28, _, ok_counts_from Fcounts_from B ⟨Cpassed⟩, PySem.W.mg_of X G a28, k28, bcounts_from⟩⟩
  have Fcounts := fun_mk (st := s_counts) l29 c29 k29
  have bcounts : Binds K _ ["book", "age"] [] := Fcounts.binds (ps := ["book", "age"]) fun _ _ _ _ _ _ us hl => match us, hl with | [_, _], _ => rfl
  have Ccounts : Cal l.prog w K mg base "counts" ["book", "age"] (spCounts K) 3 := ⟨⟨f29, _, ok_counts Fcounts B ⟨Cneed_age, Ccounts_from, Ctable, Ctally, Cletters⟩, PySem.W.mg_of X G a29, k29, bcounts⟩⟩
  have Flength := fun_mk (st := s_length) l30 c30 k30
  have blength : Binds K _ ["book", "age"] [] := Flength.binds (ps := ["book", "age"]) fun _ _ _ _ _ _ us hl => match us, hl with | [_, _], _ => rfl
  have Clength : Cal l.prog w K mg base "length" ["book", "age"] (spLength K) 4 := ⟨⟨f30, _, ok_length Flength B ⟨Ccounts⟩, PySem.W.mg_of X G a30, k30, blength⟩⟩
  have Fneed_far := fun_mk (st := s_need_far) l31 c31 k31
  have bneed_far : Binds K _ ["age", "number"] [] := Fneed_far.binds (ps := ["age", "number"]) fun _ _ _ _ _ _ us hl => match us, hl with | [_, _], _ => rfl
  have Cneed_far : Cal l.prog w K mg base "need_far" ["age", "number"] spNeedFar 2 := ⟨⟨f31, _, ok_need_far Fneed_far ⟨Cis_whole⟩ ⟨⟨_, m_FAR_AGE⟩, ⟨_, m_GREAT_NUMBER⟩⟩, PySem.W.mg_of X G a31, k31, bneed_far⟩⟩
  have Fled := fun_mk (st := s_led) l32 c32 k32
  have bled : Binds K _ ["amounts", "rates", "number"] [] := Fled.binds (ps := ["amounts", "rates", "number"]) fun _ _ _ _ _ _ us hl => match us, hl with | [_, _, _], _ => rfl
  have Cled : Cal l.prog w K mg base "led" ["amounts", "rates", "number"] (spLed K) 1 := ⟨⟨f32, _, ok_led Fled B, PySem.W.mg_of X G a32, k32, bled⟩⟩
  have Flaid := fun_mk (st := s_laid) l33 c33 k33
  have blaid : Binds K _ ["first", "second", "number"] [] := Flaid.binds (ps := ["first", "second", "number"]) fun _ _ _ _ _ _ us hl => match us, hl with | [_, _, _], _ => rfl
  have Claid : Cal l.prog w K mg base "laid" ["first", "second", "number"] (spLaid K) 2 := ⟨⟨f33, _, ok_laid Flaid B ⟨Cled⟩, PySem.W.mg_of X G a33, k33, blaid⟩⟩
  have Fcounts_at := fun_mk (st := s_counts_at) l34 c34 k34
  have bcounts_at : Binds K _ ["book", "age", "number"] [] := Fcounts_at.binds (ps := ["book", "age", "number"]) fun _ _ _ _ _ _ us hl => match us, hl with | [_, _, _], _ => rfl
  have Ccounts_at : Cal l.prog w K mg base "counts_at" ["book", "age", "number"] (spCountsAt K) 3 := ⟨⟨f34, _, ok_counts_at Fcounts_at B ⟨Cneed_far, Ctable, Ctally, Cletters, Cled, Claid⟩, PySem.W.mg_of X G a34, k34, bcounts_at⟩⟩
  have Flength_at := fun_mk (st := s_length_at) l35 c35 k35
  have blength_at : Binds K _ ["book", "age", "number"] [] := Flength_at.binds (ps := ["book", "age", "number"]) fun _ _ _ _ _ _ us hl => match us, hl with | [_, _, _], _ => rfl
  have Clength_at : Cal l.prog w K mg base "length_at" ["book", "age", "number"] (spLengthAt K) 4 := ⟨⟨f35, _, ok_length_at Flength_at B ⟨Ccounts_at⟩, PySem.W.mg_of X G a35, k35, blength_at⟩⟩
  have Fis_row := fun_mk (st := s_is_row) l36 c36 k36
  have bis_row : Binds K _ ["thing"] [] := Fis_row.binds (ps := ["thing"]) fun _ _ _ _ _ _ us hl => match us, hl with | [_], _ => rfl
  have Cis_row : Cal l.prog w K mg base "is_row" ["thing"] (spIsRow K) 2 := ⟨⟨f36, _, ok_is_row Fis_row B ⟨Cis_whole⟩ ⟨⟨_, m_MOST_TIE⟩⟩, PySem.W.mg_of X G a36, k36, bis_row⟩⟩
  have Fstepped := fun_mk (st := s_stepped) l37 c37 k37
  have bstepped : Binds K _ ["c", "parts", "number"] [] := Fstepped.binds (ps := ["c", "parts", "number"]) fun _ _ _ _ _ _ us hl => match us, hl with | [_, _, _], _ => rfl
  have Cstepped : Cal l.prog w K mg base "stepped" ["c", "parts", "number"] (spStepped K) 1 := ⟨⟨f37, _, ok_stepped Fstepped B, PySem.W.mg_of X G a37, k37, bstepped⟩⟩
  have Fjoined := fun_mk (st := s_joined) l38 c38 k38
  have bjoined : Binds K _ ["c", "parts", "number"] [] := Fjoined.binds (ps := ["c", "parts", "number"]) fun _ _ _ _ _ _ us hl => match us, hl with | [_, _, _], _ => rfl
  have Cjoined : Cal l.prog w K mg base "joined" ["c", "parts", "number"] (spJoined K) 2 := ⟨⟨f38, _, ok_joined Fjoined B ⟨Cstepped⟩, PySem.W.mg_of X G a38, k38, bjoined⟩⟩
  have Fbits_of := fun_mk (st := s_bits_of) l39 c39 k39
  have bbits_of : Binds K _ ["age"] [] := Fbits_of.binds (ps := ["age"]) fun _ _ _ _ _ _ us hl => match us, hl with | [_], _ => rfl
  have Cbits_of : Cal l.prog w K mg base "bits_of" ["age"] spBitsOf 1 := ⟨⟨f39, _, ok_bits_of Fbits_of, PySem.W.mg_of X G a39, k39, bbits_of⟩⟩
  have Funwound := fun_mk (st := s_unwound) l40 c40 k40
  have bunwound : Binds K _ ["c", "starts", "age", "number"] [] := Funwound.binds (ps := ["c", "starts", "age", "number"]) fun _ _ _ _ _ _ us hl => match us, hl with | [_, _, _, _], _ => rfl
  have Cunwound : Cal l.prog w K mg base "unwound" ["c", "starts", "age", "number"] (spUnwound K) 3 := ⟨⟨f40, _, ok_unwound Funwound B ⟨Cis_row, Cneed_far, Cjoined, Cstepped, Cbits_of⟩, PySem.W.mg_of X G a40, k40, bunwound⟩⟩
  have F_law_kept := fun_mk (st := s__law_kept) l41 c41 k41
  have b_law_kept : Binds K _ ["_law_book_here", "_law_second", "_law_c", "_law_age", "_law_number"] [] := F_law_kept.binds (ps := ["_law_book_here", "_law_second", "_law_c", "_law_age", "_law_number"]) fun _ _ _ _ _ _ us hl => match us, hl with | [_, _, _, _, _], _ => rfl
  have C_law_kept : Cal l.prog w K mg base "_law_kept" ["_law_book_here", "_law_second", "_law_c", "_law_age", "_law_number"] (spKept K) 5 := ⟨⟨f41, _, ok_law_kept F_law_kept B ⟨Clength_at, Clength, Cunwound⟩, PySem.W.mg_of X G a41, k41, b_law_kept⟩⟩
  have F_law_lengths_hold := fun_mk (st := s__law_lengths_hold) l42 c42 k42
  have b_law_lengths_hold : Binds K _ ["_law_book_here", "_law_second", "_law_told", "_law_near_age", "_law_age", "_law_number"] [] := F_law_lengths_hold.binds (ps := ["_law_book_here", "_law_second", "_law_told", "_law_near_age", "_law_age", "_law_number"]) fun _ _ _ _ _ _ us hl => match us, hl with | [_, _, _, _, _, _], _ => rfl
  have C_law_lengths_hold : Cal l.prog w K mg base "_law_lengths_hold" ["_law_book_here", "_law_second", "_law_told", "_law_near_age", "_law_age", "_law_number"] (spHold K) 6 := ⟨⟨f42, _, ok_law_lengths_hold F_law_lengths_hold B ⟨Clength, C_law_kept⟩, PySem.W.mg_of X G a42, k42, b_law_lengths_hold⟩⟩
  have Famount_of := fun_mk (st := s_amount_of) l43 c43 k43
  have bamount_of : Binds K _ ["book", "amounts", "letter"] [] := Famount_of.binds (ps := ["book", "amounts", "letter"]) fun _ _ _ _ _ _ us hl => match us, hl with | [_, _, _], _ => rfl
  have Camount_of : Cal l.prog w K mg base "amount_of" ["book", "amounts", "letter"] (spAmountOf K) 2 := ⟨⟨f43, _, ok_amount_of Famount_of ⟨Cletters⟩, PySem.W.mg_of X G a43, k43, bamount_of⟩⟩
  have Fcounts_alike := fun_mk (st := s_counts_alike) l44 c44 k44
  have bcounts_alike : Binds K _ ["one", "other"] [] := Fcounts_alike.binds (ps := ["one", "other"]) fun _ _ _ _ _ _ us hl => match us, hl with | [_, _], _ => rfl
  have Ccounts_alike : Cal l.prog w K mg base "counts_alike" ["one", "other"] (spCountsAlike K) 7 := ⟨⟨f44, _, ok_counts_alike Fcounts_alike B ⟨Cboth_sizes, Cfirst_counts, Cletters, Camount_of, Ctie⟩, PySem.W.mg_of X G a44, k44, bcounts_alike⟩⟩
  have F_law_amounts := fun_mk (st := s__law_amounts) l45 c45 k45
  have b_law_amounts : Binds K _ ["_law_book_here", "_law_age", "_law_number"] [] := F_law_amounts.binds (ps := ["_law_book_here", "_law_age", "_law_number"]) fun _ _ _ _ _ _ us hl => match us, hl with | [_, _, _], _ => rfl
  have C_law_amounts : Cal l.prog w K mg base "_law_amounts" ["_law_book_here", "_law_age", "_law_number"] (spAmounts K) 4 := ⟨⟨f45, _, ok_law_amounts F_law_amounts B ⟨Ccounts_at⟩, PySem.W.mg_of X G a45, k45, b_law_amounts⟩⟩
  have Flaw := fun_mk (st := s_law) l46 c46 k46
  exact ok_law Flaw B ⟨C_law_pen, C_law_take, C_law_free, C_law_named, C_law_spoiled, C_law_book, C_law_great, Clengths_alike, C_law_lengths_hold, Ccounts_alike, C_law_amounts⟩
end LG

open PySem PySem.W PyProof.Rows
set_option maxHeartbeats 0 in
theorem PySem.Challenge.cw_linegrow_k48_whole_alike_for_ever_holds : PySem.Challenge.rw_linegrow_k48_whole_alike_for_ever.Holds := by
  w_on; o_law; k_head; (case hw => w_witness2)
  k_fill
  refine L2.walk_of (l := PySem.Challenge.rw_linegrow_k48_whole_alike_for_ever) (n := 63) (k := 9) (x := "_law_script") (CX := fun _ => L2.CX0) (sp := fun w => LG.spLaw _) rfl (by decide) rfl ⟨rfl, by decide, by decide⟩ (fun w h Y => PySem.W.kIn_of Y) ?F (fun _ _ a ns hl _ hS => ⟨a, ns, rfl, hS, hl, fun _ => rfl⟩) (fun _ _ _ _ _ h => h)
  case F =>
    intro w mg fa h KX G hmg
    refine' LG.all_mk KX G hmg ?a0 ?l0 ?c0 ?k0 ?a1 ?l1 ?c1 ?k1 ?a2 ?l2 ?c2 ?k2 ?a3 ?l3 ?c3 ?k3 ?a4 ?l4 ?c4 ?k4 ?a5 ?l5 ?c5 ?k5 ?a6 ?l6 ?c6 ?k6 ?a7 ?l7 ?c7 ?k7 ?a8 ?l8 ?c8 ?k8 ?a9 ?l9 ?c9 ?k9 ?a10 ?l10 ?c10 ?k10 ?a11 ?l11 ?c11 ?k11 ?a12 ?l12 ?c12 ?k12 ?a13 ?l13 ?c13 ?k13 ?a14 ?l14 ?c14 ?k14 ?a15 ?l15 ?c15 ?k15 ?a16 ?l16 ?c16 ?k16 ?a17 ?l17 ?c17 ?k17 ?a18 ?l18 ?c18 ?k18 ?a19 ?l19 ?c19 ?k19 ?a20 ?l20 ?c20 ?k20 ?a21 ?l21 ?c21 ?k21 ?a22 ?l22 ?c22 ?k22 ?a23 ?l23 ?c23 ?k23 ?lT ?a24 ?l24 ?c24 ?k24 ?a25 ?l25 ?c25 ?k25 ?a26 ?l26 ?c26 ?k26 ?a27 ?l27 ?c27 ?k27 ?a28 ?l28 ?c28 ?k28 ?a29 ?l29 ?c29 ?k29 ?a30 ?l30 ?c30 ?k30 ?a31 ?l31 ?c31 ?k31 ?a32 ?l32 ?c32 ?k32 ?a33 ?l33 ?c33 ?k33 ?a34 ?l34 ?c34 ?k34 ?a35 ?l35 ?c35 ?k35 ?a36 ?l36 ?c36 ?k36 ?a37 ?l37 ?c37 ?k37 ?a38 ?l38 ?c38 ?k38 ?a39 ?l39 ?c39 ?k39 ?a40 ?l40 ?c40 ?k40 ?a41 ?l41 ?c41 ?k41 ?a42 ?l42 ?c42 ?k42 ?a43 ?l43 ?c43 ?k43 ?a44 ?l44 ?c44 ?k44 ?a45 ?l45 ?c45 ?k45 ?a46 ?l46 ?c46 ?k46 ?z_len ?z_range ?z_enumerate ?z_zip ?z_sum ?z_isinstance ?z_int ?z_bool ?z_str ?z_list ?z_tuple ?z_sorted ?z_set ?z_min ?z_reversed ?z_abs ?z_LAST_AGE ?z_FAR_AGE ?z_GREAT_NUMBER ?z_MOST_TIE
    (case a0 => k_is)
    (case l0 => k_is)
    (case c0 => k_is)
    (case k0 => k_is)
    (case a1 => k_is)
    (case l1 => k_is)
    (case c1 => k_is)
    (case k1 => k_is)
    (case a2 => k_is)
    (case l2 => k_is)
    (case c2 => k_is)
    (case k2 => k_is)
    (case a3 => k_is)
    (case l3 => k_is)
    (case c3 => k_is)
    (case k3 => k_is)
    (case a4 => k_is)
    (case l4 => k_is)
    (case c4 => k_is)
    (case k4 => k_is)
    (case a5 => k_is)
    (case l5 => k_is)
    (case c5 => k_is)
    (case k5 => k_is)
    (case a6 => k_is)
    (case l6 => k_is)
    (case c6 => k_is)
    (case k6 => k_is)
    (case a7 => k_is)
    (case l7 => k_is)
    (case c7 => k_is)
    (case k7 => k_is)
    (case a8 => k_is)
    (case l8 => k_is)
    (case c8 => k_is)
    (case k8 => k_is)
    (case a9 => k_is)
    (case l9 => k_is)
    (case c9 => k_is)
    (case k9 => k_is)
    (case a10 => k_is)
    (case l10 => k_is)
    (case c10 => k_is)
    (case k10 => k_is)
    (case a11 => k_is)
    (case l11 => k_is)
    (case c11 => k_is)
    (case k11 => k_is)
    (case a12 => k_is)
    (case l12 => k_is)
    (case c12 => k_is)
    (case k12 => k_is)
    (case a13 => k_is)
    (case l13 => k_is)
    (case c13 => k_is)
    (case k13 => k_is)
    (case a14 => k_is)
    (case l14 => k_is)
    (case c14 => k_is)
    (case k14 => k_is)
    (case a15 => k_is)
    (case l15 => k_is)
    (case c15 => k_is)
    (case k15 => k_is)
    (case a16 => k_is)
    (case l16 => k_is)
    (case c16 => k_is)
    (case k16 => k_is)
    (case a17 => k_is)
    (case l17 => k_is)
    (case c17 => k_is)
    (case k17 => k_is)
    (case a18 => k_is)
    (case l18 => k_is)
    (case c18 => k_is)
    (case k18 => k_is)
    (case a19 => k_is)
    (case l19 => k_is)
    (case c19 => k_is)
    (case k19 => k_is)
    (case a20 => k_is)
    (case l20 => k_is)
    (case c20 => k_is)
    (case k20 => k_is)
    (case a21 => k_is)
    (case l21 => k_is)
    (case c21 => k_is)
    (case k21 => k_is)
    (case a22 => k_is)
    (case l22 => k_is)
    (case c22 => k_is)
    (case k22 => k_is)
    (case a23 => k_is)
    (case l23 => k_is)
    (case c23 => k_is)
    (case k23 => k_is)
    (case lT => k_is)
    (case a24 => k_is)
    (case l24 => k_is)
    (case c24 => k_is)
    (case k24 => k_is)
    (case a25 => k_is)
    (case l25 => k_is)
    (case c25 => k_is)
    (case k25 => k_is)
    (case a26 => k_is)
    (case l26 => k_is)
    (case c26 => k_is)
    (case k26 => k_is)
    (case a27 => k_is)
    (case l27 => k_is)
    (case c27 => k_is)
    (case k27 => k_is)
    (case a28 => k_is)
    (case l28 => k_is)
    (case c28 => k_is)
    (case k28 => k_is)
    (case a29 => k_is)
    (case l29 => k_is)
    (case c29 => k_is)
    (case k29 => k_is)
    (case a30 => k_is)
    (case l30 => k_is)
    (case c30 => k_is)
    (case k30 => k_is)
    (case a31 => k_is)
    (case l31 => k_is)
    (case c31 => k_is)
    (case k31 => k_is)
    (case a32 => k_is)
    (case l32 => k_is)
    (case c32 => k_is)
    (case k32 => k_is)
    (case a33 => k_is)
    (case l33 => k_is)
    (case c33 => k_is)
    (case k33 => k_is)
    (case a34 => k_is)
    (case l34 => k_is)
    (case c34 => k_is)
    (case k34 => k_is)
    (case a35 => k_is)
    (case l35 => k_is)
    (case c35 => k_is)
    (case k35 => k_is)
    (case a36 => k_is)
    (case l36 => k_is)
    (case c36 => k_is)
    (case k36 => k_is)
    (case a37 => k_is)
    (case l37 => k_is)
    (case c37 => k_is)
    (case k37 => k_is)
    (case a38 => k_is)
    (case l38 => k_is)
    (case c38 => k_is)
    (case k38 => k_is)
    (case a39 => k_is)
    (case l39 => k_is)
    (case c39 => k_is)
    (case k39 => k_is)
    (case a40 => k_is)
    (case l40 => k_is)
    (case c40 => k_is)
    (case k40 => k_is)
    (case a41 => k_is)
    (case l41 => k_is)
    (case c41 => k_is)
    (case k41 => k_is)
    (case a42 => k_is)
    (case l42 => k_is)
    (case c42 => k_is)
    (case k42 => k_is)
    (case a43 => k_is)
    (case l43 => k_is)
    (case c43 => k_is)
    (case k43 => k_is)
    (case a44 => k_is)
    (case l44 => k_is)
    (case c44 => k_is)
    (case k44 => k_is)
    (case a45 => k_is)
    (case l45 => k_is)
    (case c45 => k_is)
    (case k45 => k_is)
    (case a46 => k_is)
    (case l46 => k_is)
    (case c46 => k_is)
    (case k46 => k_is)
    (case z_len => k_is)
    (case z_range => k_is)
    (case z_enumerate => k_is)
    (case z_zip => k_is)
    (case z_sum => k_is)
    (case z_isinstance => k_is)
    (case z_int => k_is)
    (case z_bool => k_is)
    (case z_str => k_is)
    (case z_list => k_is)
    (case z_tuple => k_is)
    (case z_sorted => k_is)
    (case z_set => k_is)
    (case z_min => k_is)
    (case z_reversed => k_is)
    (case z_abs => k_is)
    (case z_LAST_AGE => k_is)
    (case z_FAR_AGE => k_is)
    (case z_GREAT_NUMBER => k_is)
    (case z_MOST_TIE => k_is)
