import PyProof.Rows.All
import Wide.All
import OpenK.AllK
import Wide.FinOn
import KE.KIndexOf
import HandS.ForMost
import HandS.Conv
import HandS.Sort
import HandS.SetFor
import HandS.Zip
import HandS.TupAny
import HandS.DictComp
import HandS.DictEq
import HandS.More
import HandS.Strs
import HandS.Flt
import HandS.SortInts
import HandS.Defaults
import HandS.WordsExc
import KE.KSortedM
import KE.KStateDown
import Lean
import HandS.Base
import HandS.Call
import HandS.Ends
import HandS.Words
import HandS.Head0
import HandS.Head1
import HandS.Head2
import HandS.HeadEnd
import HandS.HeadHook1
import HandS.HeadHook2
import HandS.HeadHook3
import HandS.HeadHook4
import PySem.Challenge.RW_schemebound_k17_whole_numbers
set_option linter.all false
namespace Mth
/-! ### binomials -/
def C : Nat → Nat → Nat
  | _, 0 => 1
  | 0, _ + 1 => 0
  | n + 1, k + 1 => C n k + C n (k + 1)
theorem C_0 (n : Nat) : C n 0 = 1 := by cases n <;> rfl
theorem C_00 (k : Nat) : C 0 (k + 1) = 0 := rfl
theorem C_s (n k : Nat) : C (n + 1) (k + 1) = C n k + C n (k + 1) := rfl
theorem C_gt : ∀ {n k : Nat}, n < k → C n k = 0
  | 0, k + 1, _ => rfl
  | n + 1, k + 1, h => by
    rw [C_s, C_gt (n := n) (k := k) (by omega), C_gt (n := n) (k := k + 1) (by omega)]
theorem C_self : ∀ n : Nat, C n n = 1
  | 0 => rfl
  | n + 1 => by rw [C_s, C_self n, C_gt (Nat.lt_succ_self n)]
def F : Nat → Nat
  | 0 => 1
  | n + 1 => (n + 1) * F n
theorem F_pos : ∀ n : Nat, 0 < F n
  | 0 => Nat.one_pos
  | n + 1 => Nat.mul_pos (Nat.succ_pos n) (F_pos n)
theorem C_fact : ∀ a b : Nat, C (a + b) a * (F a * F b) = F (a + b)
  | 0, b => by rw [C_0, Nat.zero_add]; show 1 * (1 * F b) = F b; omega
  | a + 1, 0 => by rw [Nat.add_zero, C_self]; show 1 * (F (a + 1) * 1) = F (a + 1); omega
  | a + 1, b + 1 => by
    have h1 := C_fact a (b + 1)
    have h2 := C_fact (a + 1) b
    have e : a + 1 + (b + 1) = (a + (b + 1)) + 1 := by omega
    have e2 : a + 1 + b = a + (b + 1) := by omega
    rw [e2] at h2
    rw [e, C_s, Nat.add_mul]
    show C (a + (b + 1)) a * ((a + 1) * F a * F (b + 1)) + C (a + (b + 1)) (a + 1) * (F (a + 1) * ((b + 1) * F b)) = (a + (b + 1) + 1) * F (a + (b + 1))
    have x1 : C (a + (b + 1)) a * ((a + 1) * F a * F (b + 1)) = (a + 1) * F (a + (b + 1)) := by
      rw [← h1]; ac_rfl
    have x2 : C (a + (b + 1)) (a + 1) * (F (a + 1) * ((b + 1) * F b)) = (b + 1) * F (a + (b + 1)) := by
      rw [← h2]; ac_rfl
    rw [x1, x2, ← Nat.add_mul]
    congr 1
    all_goals omega
theorem C_factN {n k : Nat} (h : k ≤ n) : C n k * (F k * F (n - k)) = F n := by
  have := C_fact k (n - k)
  rw [show k + (n - k) = n by omega] at this
  exact this
theorem C_symm {n k : Nat} (h : k ≤ n) : C n (n - k) = C n k := by
  have h1 := C_factN h
  have h2 := C_factN (n := n) (k := n - k) (by omega)
  rw [show n - (n - k) = k by omega] at h2
  have hp : 0 < F k * F (n - k) := Nat.mul_pos (F_pos _) (F_pos _)
  refine Nat.eq_of_mul_eq_mul_right hp ?_
  rw [h1, Nat.mul_comm (F k), h2]
/-- the program's step -/
theorem C_step (n k : Nat) : C n (k + 1) * (k + 1) = C n k * (n - k) := by
  by_cases h : k < n
  · have h1 := C_factN (n := n) (k := k) (by omega)
    have h2 := C_factN (n := n) (k := k + 1) (by omega)
    obtain ⟨m, hm⟩ : ∃ m, n - k = m + 1 := ⟨n - k - 1, by omega⟩
    have hm2 : n - (k + 1) = m := by omega
    rw [hm] at h1 ⊢
    rw [hm2] at h2
    have hp : 0 < F k * F m := Nat.mul_pos (F_pos _) (F_pos _)
    refine Nat.eq_of_mul_eq_mul_right hp ?_
    have x1 : C n (k + 1) * (k + 1) * (F k * F m) = F n := by
      rw [← h2]; show _ = C n (k + 1) * ((k + 1) * F k * F m); ac_rfl
    have x2 : C n k * (m + 1) * (F k * F m) = F n := by
      rw [← h1]; show _ = C n k * (F k * ((m + 1) * F m)); ac_rfl
    rw [x1, x2]
  · rw [C_gt (by omega : n < k + 1), show n - k = 0 by omega]; simp
theorem C_le_two : ∀ n k : Nat, C n k ≤ 2 ^ n
  | n, 0 => by rw [C_0]; exact Nat.one_le_two_pow
  | 0, k + 1 => by rw [C_00]; exact Nat.zero_le _
  | n + 1, k + 1 => by
    rw [C_s, Nat.pow_succ]
    have := C_le_two n k
    have := C_le_two n (k + 1)
    omega
/-! ### sums -/
def Sm : Nat → (Nat → Nat) → Nat
  | 0, _ => 0
  | n + 1, f => Sm n f + f n
theorem Sm_s (n : Nat) (f : Nat → Nat) : Sm (n + 1) f = Sm n f + f n := rfl
theorem Sm_congr : ∀ {n : Nat} {f g : Nat → Nat}, (∀ i, i < n → f i = g i) → Sm n f = Sm n g
  | 0, _, _, _ => rfl
  | n + 1, f, g, h => by rw [Sm_s, Sm_s, Sm_congr fun i hi => h i (by omega), h n (by omega)]
theorem Sm_zero : ∀ {n : Nat} {f : Nat → Nat}, (∀ i, i < n → f i = 0) → Sm n f = 0
  | 0, _, _ => rfl
  | n + 1, f, h => by rw [Sm_s, Sm_zero fun i hi => h i (by omega), h n (by omega)]
theorem Sm_add : ∀ (n : Nat) (f g : Nat → Nat), Sm n (fun i => f i + g i) = Sm n f + Sm n g
  | 0, _, _ => rfl
  | n + 1, f, g => by rw [Sm_s, Sm_s, Sm_s, Sm_add n f g]; omega
theorem Sm_mul : ∀ (n c : Nat) (f : Nat → Nat), Sm n (fun i => c * f i) = c * Sm n f
  | 0, _, _ => rfl
  | n + 1, c, f => by rw [Sm_s, Sm_s, Sm_mul n c f, Nat.mul_add]
theorem Sm_mulr (n c : Nat) (f : Nat → Nat) : Sm n (fun i => f i * c) = Sm n f * c := by
  rw [Nat.mul_comm, ← Sm_mul]
  exact Sm_congr fun i _ => Nat.mul_comm _ _
theorem Sm_shift (d : Nat) : ∀ (n : Nat) (f : Nat → Nat), Sm (d + n) f = Sm d f + Sm n (fun i => f (d + i))
  | 0, _ => rfl
  | n + 1, f => by
    show Sm (d + n) f + f (d + n) = Sm d f + (Sm n (fun i => f (d + i)) + f (d + n))
    rw [Sm_shift d n f]; omega
theorem Sm_first (n : Nat) (f : Nat → Nat) : Sm (n + 1) f = f 0 + Sm n (fun i => f (i + 1)) := by
  rw [Nat.add_comm n 1, Sm_shift 1 n f]
  show 0 + f 0 + _ = _
  rw [Nat.zero_add]
  congr 1
  exact Sm_congr fun i _ => by rw [Nat.add_comm]
theorem Sm_rev : ∀ (n : Nat) (f : Nat → Nat), Sm n f = Sm n (fun i => f (n - 1 - i))
  | 0, _ => rfl
  | n + 1, f => by
    rw [Sm_first n (fun i => f (n + 1 - 1 - i)), Sm_s, Sm_rev n f, Nat.add_comm]
    congr 1
    exact Sm_congr fun i hi => by congr 1; omega
theorem Sm_comm : ∀ (n m : Nat) (f : Nat → Nat → Nat), Sm n (fun i => Sm m (f i)) = Sm m (fun j => Sm n (fun i => f i j))
  | 0, m, f => by
    show 0 = Sm m (fun _ => 0)
    rw [Sm_zero fun _ _ => rfl]
  | n + 1, m, f => by
    rw [Sm_s, Sm_comm n m f, ← Sm_add]
    rfl
theorem Sm_ext {n m : Nat} {f : Nat → Nat} (h : n ≤ m) (z : ∀ i, n ≤ i → i < m → f i = 0) : Sm m f = Sm n f := by
  obtain ⟨d, rfl⟩ : ∃ d, m = n + d := ⟨m - n, by omega⟩
  rw [Sm_shift, Sm_zero (n := d) fun i hi => z (n + i) (by omega) (by omega)]
  rfl
/-- only the part from d on, e + 1 of them -/
theorem Sm_part {n d e : Nat} {f : Nat → Nat} (h : d + e ≤ n) (z1 : ∀ i, i < d → f i = 0) (z2 : ∀ i, d + e ≤ i → i < n → f i = 0) : Sm n f = Sm e (fun i => f (d + i)) := by
  rw [Sm_ext h z2, Sm_shift, Sm_zero z1, Nat.zero_add]
theorem Sm_one {n d : Nat} {f : Nat → Nat} (h : d < n) (z : ∀ i, i < n → i ≠ d → f i = 0) : Sm n f = f d := by
  rw [Sm_part (d := d) (e := 1) (by omega) (fun i hi => z i (by omega) (by omega)) (fun i h1 h2 => z i h2 (by omega))]
  show 0 + f (d + 0) = f d
  rw [Nat.zero_add, Nat.add_zero]
theorem Sm_le : ∀ {n : Nat} {f : Nat → Nat} {i : Nat}, i < n → f i ≤ Sm n f
  | n + 1, f, i, h => by
    rw [Sm_s]
    by_cases e : i = n
    · subst e; omega
    · have := Sm_le (n := n) (f := f) (i := i) (by omega); omega
/-! ### Vandermonde, the binomial theorem -/
theorem vand : ∀ (a b r : Nat), Sm (r + 1) (fun u => C a u * C b (r - u)) = C (a + b) r
  | 0, b, r => by
    rw [Sm_one (d := 0) (by omega) (fun i _ h => by
      obtain ⟨j, rfl⟩ : ∃ j, i = j + 1 := ⟨i - 1, by omega⟩
      rw [C_00, Nat.zero_mul])]
    rw [C_0, Nat.one_mul, Nat.zero_add, Nat.sub_zero]
  | a + 1, b, 0 => by
    show 0 + C (a + 1) 0 * C b (0 - 0) = C (a + 1 + b) 0
    rw [C_0, C_0, C_0]
  | a + 1, b, r + 1 => by
    have h1 := vand a b (r + 1)
    have h2 := vand a b r
    rw [Sm_first]
    have e : Sm (r + 1) (fun i => C (a + 1) (i + 1) * C b (r + 1 - (i + 1))) = Sm (r + 1) (fun i => C a i * C b (r - i)) + Sm (r + 1) (fun i => C a (i + 1) * C b (r + 1 - (i + 1))) := by
      rw [← Sm_add]
      refine Sm_congr fun i _ => ?_
      rw [C_s, Nat.add_mul, show r + 1 - (i + 1) = r - i by omega]
    rw [Sm_first] at h1
    rw [e, h2, show a + 1 + b = (a + b) + 1 by omega, C_s, ← h1, C_0, C_0]
    omega
theorem binom (x : Nat) : ∀ n : Nat, Sm (n + 1) (fun i => C n i * x ^ i) = (x + 1) ^ n
  | 0 => rfl
  | n + 1 => by
    have h := binom x n
    rw [Sm_first]
    have e : Sm (n + 1) (fun i => C (n + 1) (i + 1) * x ^ (i + 1)) = x * Sm (n + 1) (fun i => C n i * x ^ i) + Sm (n + 1) (fun i => C n (i + 1) * x ^ (i + 1)) := by
      rw [← Sm_mul, ← Sm_add]
      refine Sm_congr fun i _ => ?_
      rw [C_s, Nat.add_mul, Nat.pow_succ]
      congr 1
      ac_rfl
    have e2 : C n 0 * x ^ 0 + Sm (n + 1) (fun i => C n (i + 1) * x ^ (i + 1)) = (x + 1) ^ n := by
      rw [← Sm_first (n + 1) (fun i => C n i * x ^ i), Sm_s, h, C_gt (Nat.lt_succ_self n), Nat.zero_mul, Nat.add_zero]
    rw [C_0] at e2
    rw [e, h, C_0, Nat.pow_succ, Nat.mul_add, Nat.mul_comm x, ← e2]
    omega
/-- five parts -/
theorem multi5 (a b c t r : Nat) : C (a + b + c + t + r) (a + b + c) * C (t + r) t * C (a + b + c) a * C (b + c) b * (F a * F b * F c * F t * F r) = F (a + b + c + t + r) := by
  have h1 := C_fact (a + b + c) (t + r)
  have h2 := C_fact t r
  have h3 := C_fact a (b + c)
  have h4 := C_fact b c
  rw [show a + b + c + (t + r) = a + b + c + t + r by omega] at h1
  rw [show a + (b + c) = a + b + c by omega] at h3
  rw [← h1, ← h2, ← h3, ← h4]
  ac_rfl
theorem words_rec {n k i a b c t : Nat} (hk : k = a + b + c) (hi : i = a + c + t) (hn : k + t ≤ n) :
    C n k * C (n - k) t * C k a * C (k - a) b = C n i * C (n - i) b * C i a * C (i - a) t := by
  obtain ⟨r, rfl⟩ : ∃ r, n = a + b + c + t + r := ⟨n - (a + b + c + t), by omega⟩
  subst hk hi
  have h1 := multi5 a b c t r
  have h2 := multi5 a t c b r
  rw [show a + t + c + b + r = a + b + c + t + r by omega, show a + t + c = a + c + t by omega] at h2
  rw [show a + b + c + t + r - (a + b + c) = t + r by omega, show a + b + c - a = b + c by omega, show a + b + c + t + r - (a + c + t) = b + r by omega, show a + c + t - a = t + c by omega]
  have hp : 0 < F a * F b * F c * F t * F r := Nat.mul_pos (Nat.mul_pos (Nat.mul_pos (Nat.mul_pos (F_pos _) (F_pos _)) (F_pos _)) (F_pos _)) (F_pos _)
  refine Nat.eq_of_mul_eq_mul_right hp ?_
  rw [h1, ← h2]
  congr 1
  ac_rfl
/-- three parts -/
theorem tri (p q r : Nat) : C (p + q + r) p * C (q + r) q = C (p + q + r) (p + r) * C (p + r) p := by
  have h1 := C_fact p (q + r)
  have h2 := C_fact q r
  have h3 := C_fact (p + r) q
  have h4 := C_fact p r
  rw [show p + (q + r) = p + q + r by omega] at h1
  rw [show p + r + q = p + q + r by omega] at h3
  have hp : 0 < F p * F q * F r := Nat.mul_pos (Nat.mul_pos (F_pos _) (F_pos _)) (F_pos _)
  refine Nat.eq_of_mul_eq_mul_right hp ?_
  have x1 : C (p + q + r) p * C (q + r) q * (F p * F q * F r) = F (p + q + r) := by
    rw [← h1, ← h2]; ac_rfl
  have x2 : C (p + q + r) (p + r) * C (p + r) p * (F p * F q * F r) = F (p + q + r) := by
    rw [← h3, ← h4]; ac_rfl
  rw [x1, x2]
theorem tri_symm {k a b : Nat} (h : a + b ≤ k) : C k a * C (k - a) b = C k b * C (k - b) a := by
  obtain ⟨c, rfl⟩ : ∃ c, k = a + b + c := ⟨k - (a + b), by omega⟩
  have h1 := C_fact a (b + c)
  have h2 := C_fact b c
  have h3 := C_fact b (a + c)
  have h4 := C_fact a c
  rw [show a + (b + c) = a + b + c by omega] at h1
  rw [show b + (a + c) = a + b + c by omega] at h3
  rw [show a + b + c - a = b + c by omega, show a + b + c - b = a + c by omega]
  have hp : 0 < F a * F b * F c := Nat.mul_pos (Nat.mul_pos (F_pos _) (F_pos _)) (F_pos _)
  refine Nat.eq_of_mul_eq_mul_right hp ?_
  have x1 : C (a + b + c) a * C (b + c) b * (F a * F b * F c) = F (a + b + c) := by
    rw [← h1, ← h2]; ac_rfl
  have x2 : C (a + b + c) b * C (a + c) a * (F a * F b * F c) = F (a + b + c) := by
    rw [← h3, ← h4]; ac_rfl
  rw [x1, x2]
/-- two choices of four parts -/
theorem four (p q r s : Nat) : C (p + q + r + s) (p + q) * C (p + q) p * C (r + s) r = C (p + q + r + s) (p + r) * C (p + r) p * C (q + s) q := by
  have h1 := C_fact (p + q) (r + s)
  have h2 := C_fact p q
  have h3 := C_fact r s
  have h4 := C_fact (p + r) (q + s)
  have h5 := C_fact p r
  have h6 := C_fact q s
  rw [show p + q + (r + s) = p + q + r + s by omega] at h1
  rw [show p + r + (q + s) = p + q + r + s by omega] at h4
  have hp : 0 < F p * F q * F r * F s := Nat.mul_pos (Nat.mul_pos (Nat.mul_pos (F_pos _) (F_pos _)) (F_pos _)) (F_pos _)
  refine Nat.eq_of_mul_eq_mul_right hp ?_
  have x1 : C (p + q + r + s) (p + q) * C (p + q) p * C (r + s) r * (F p * F q * F r * F s) = F (p + q + r + s) := by
    rw [← h1, ← h2, ← h3]; ac_rfl
  have x2 : C (p + q + r + s) (p + r) * C (p + r) p * C (q + s) q * (F p * F q * F r * F s) = F (p + q + r + s) := by
    rw [← h4, ← h5, ← h6]; ac_rfl
  rw [x1, x2]
end Mth

set_option linter.all false
namespace Mth
/-! ### words: n figures by x + 2 -/
def vw (n x i : Nat) : Nat := C n i * (x + 1) ^ i
def tw (n x i j k t : Nat) : Nat :=
  if j ≤ k + t ∧ i ≤ k + t ∧ k + 2 * t ≤ i + j then C (n - k) t * (x + 1) ^ t * C k (k + t - j) * C (k - (k + t - j)) (k + t - i) * x ^ (i + j - k - 2 * t) else 0
def pw (n x i j k : Nat) : Nat := Sm (n - k + 1) (tw n x i j k)
theorem vw_sum (n x : Nat) : Sm (n + 1) (vw n x) = (x + 2) ^ n := binom (x + 1) n
theorem vw_0 (n x : Nat) : vw n x 0 = 1 := by unfold vw; rw [C_0]; rfl
theorem tw_symm (n x i j k t : Nat) : tw n x i j k t = tw n x j i k t := by
  unfold tw
  by_cases h : j ≤ k + t ∧ i ≤ k + t ∧ k + 2 * t ≤ i + j
  · obtain ⟨h1, h2, h3⟩ := h
    rw [if_pos ⟨h1, h2, h3⟩, if_pos ⟨h2, h1, by omega⟩]
    have e := tri_symm (k := k) (a := k + t - j) (b := k + t - i) (by omega)
    rw [Nat.mul_assoc (C (n - k) t * (x + 1) ^ t), e, Nat.add_comm i j]
    ac_rfl
  · rw [if_neg h, if_neg fun z => h ⟨z.2.1, z.1, by omega⟩]
theorem pw_symm (n x i j k : Nat) : pw n x i j k = pw n x j i k := Sm_congr fun t _ => tw_symm n x i j k t
theorem pw_one (n x a k : Nat) (hk : k ≤ n) : pw n x 0 a k = if a = k then 1 else 0 := by
  unfold pw
  rw [Sm_one (d := 0) (by omega) (fun t ht h => by
    unfold tw
    rw [if_neg]
    intro z
    omega)]
  unfold tw
  by_cases e : a = k
  · subst e
    rw [if_pos ⟨by omega, by omega, by omega⟩, if_pos rfl]
    simp only [Nat.add_zero, Nat.sub_self, Nat.sub_zero, C_0, Nat.pow_zero, C_self, Nat.zero_add, Nat.mul_zero, Nat.mul_one]
  · rw [if_neg e, if_neg]
    intro z
    omega
theorem pw_row (n x i k : Nat) (hi : i ≤ n) (hk : k ≤ n) : Sm (n + 1) (fun j => pw n x i j k) = vw n x i := by
  have inner : ∀ t, t < n - k + 1 → Sm (n + 1) (fun j => tw n x i j k t) = (if t ≤ i then C (n - k) t * C k (i - t) else 0) * (x + 1) ^ i := by
    intro t ht
    by_cases h1 : t ≤ i
    · rw [if_pos h1]
      by_cases h2 : i ≤ k + t
      · -- e + 1 terms from d on
        obtain ⟨e, he⟩ : ∃ e, e = i - t := ⟨_, rfl⟩
        obtain ⟨d, hd⟩ : ∃ d, d = k + t - e := ⟨_, rfl⟩
        rw [Sm_part (d := d) (e := e + 1) (by omega)
          (fun j hj => by
            unfold tw
            rw [if_neg]
            intro z
            omega)
          (fun j hj1 hj2 => by
            unfold tw
            rw [if_neg]
            intro z
            omega)]
        have term : ∀ u, u < e + 1 → tw n x i (d + u) k t = (C (n - k) t * (x + 1) ^ t * C k e) * (C e u * x ^ u) := by
          intro u hu
          unfold tw
          rw [if_pos ⟨by omega, by omega, by omega⟩]
          have e1 : k + t - (d + u) = e - u := by omega
          have e2 : i + (d + u) - k - 2 * t = u := by omega
          rw [e1, e2]
          have e3 : C k (e - u) * C (k - (e - u)) (k + t - i) = C k e * C e u := by
            have h3 := tri (e - u) (k + t - i) u
            rw [show e - u + (k + t - i) + u = k by omega, show e - u + u = e by omega, C_symm (n := e) (k := u) (by omega)] at h3
            rw [show k - (e - u) = k + t - i + u by omega]
            exact h3
          rw [Nat.mul_assoc (C (n - k) t * (x + 1) ^ t), e3]
          ac_rfl
        rw [Sm_congr term, Sm_mul, binom x e]
        rw [← he, show (x + 1) ^ i = (x + 1) ^ (t + e) by congr 1; omega, Nat.pow_add]
        ac_rfl
      · rw [C_gt (by omega : k < i - t), Nat.mul_zero, Nat.zero_mul]
        refine Sm_zero fun j hj => ?_
        unfold tw
        rw [if_neg]
        intro z
        omega
    · rw [if_neg h1, Nat.zero_mul]
      refine Sm_zero fun j hj => ?_
      unfold tw
      rw [if_neg]
      intro z
      omega
  show Sm (n + 1) (fun j => Sm (n - k + 1) (tw n x i j k)) = _
  rw [Sm_comm (n + 1) (n - k + 1) (fun j => tw n x i j k), Sm_congr inner, Sm_mulr]
  unfold vw
  congr 1
  have v := vand (n - k) k i
  rw [show n - k + k = n by omega] at v
  rw [← v]
  -- both are the sum over n - k + 1 + i
  rw [← Sm_ext (n := n - k + 1) (m := n - k + 1 + i) (by omega) (fun t h1 h2 => by rw [C_gt (by omega : n - k < t)]; simp),
    Sm_ext (n := i + 1) (m := n - k + 1 + i) (by omega) (fun t h1 h2 => if_neg (by omega))]
  exact Sm_congr fun t ht => if_pos (by omega)
theorem pw_rec_le (n x i j k : Nat) (hi : i ≤ k) (hk : k ≤ n) : vw n x k * pw n x i j k = vw n x i * pw n x k j i := by
  obtain ⟨d, hd⟩ : ∃ d, d = k - i := ⟨_, rfl⟩
  unfold pw
  rw [show n - i + 1 = d + (n - k + 1) by omega, Sm_shift d, Sm_zero (n := d) (fun t ht => by
    unfold tw
    rw [if_neg]
    intro z
    omega), Nat.zero_add, ← Sm_mul, ← Sm_mul]
  refine Sm_congr fun t ht => ?_
  unfold tw
  by_cases h : j ≤ k + t ∧ i ≤ k + t ∧ k + 2 * t ≤ i + j
  · obtain ⟨h1, h2, h3⟩ := h
    rw [if_pos ⟨h1, h2, h3⟩, if_pos ⟨by omega, by omega, by omega⟩]
    have e1 : i + (d + t) - j = k + t - j := by omega
    have e2 : i + (d + t) - k = t := by omega
    have e3 : k + j - i - 2 * (d + t) = i + j - k - 2 * t := by omega
    have e4 : k + t - i = d + t := by omega
    rw [e1, e2, e3, e4]
    have w := words_rec (n := n) (k := k) (i := i) (a := k + t - j) (b := d + t) (c := i + j - k - 2 * t) (t := t) (by omega) (by omega) (by omega)
    unfold vw
    have p : (x + 1) ^ k * (x + 1) ^ t = (x + 1) ^ i * (x + 1) ^ (d + t) := by
      rw [← Nat.pow_add, ← Nat.pow_add]; congr 1; omega
    have l : C n k * (x + 1) ^ k * (C (n - k) t * (x + 1) ^ t * C k (k + t - j) * C (k - (k + t - j)) (d + t) * x ^ (i + j - k - 2 * t)) =
        (C n k * C (n - k) t * C k (k + t - j) * C (k - (k + t - j)) (d + t)) * ((x + 1) ^ k * (x + 1) ^ t) * x ^ (i + j - k - 2 * t) := by ac_rfl
    have r : C n i * (x + 1) ^ i * (C (n - i) (d + t) * (x + 1) ^ (d + t) * C i (k + t - j) * C (i - (k + t - j)) t * x ^ (i + j - k - 2 * t)) =
        (C n i * C (n - i) (d + t) * C i (k + t - j) * C (i - (k + t - j)) t) * ((x + 1) ^ i * (x + 1) ^ (d + t)) * x ^ (i + j - k - 2 * t) := by ac_rfl
    rw [l, r, w, p]
  · rw [if_neg h, if_neg, Nat.mul_zero, Nat.mul_zero]
    intro z
    exact h ⟨by omega, by omega, by omega⟩
theorem pw_rec (n x i j k : Nat) (hi : i ≤ n) (hk : k ≤ n) : vw n x k * pw n x i j k = vw n x i * pw n x k j i := by
  by_cases h : i ≤ k
  · exact pw_rec_le n x i j k h hk
  · exact (pw_rec_le n x k j i (by omega) hi).symm
/-! ### sets: m out of n, m ≤ n - m -/
def vs (n m i : Nat) : Nat := C m i * C (n - m) i
def ts (n m i j k s : Nat) : Nat := C (m - k) s * (if i + s ≤ m then C k (m - i - s) else 0) * (if j + s ≤ m then C k (m - j - s) else 0) * (if m ≤ i + j + s then C (n - m - k) (i + j + s - m) else 0)
def ps (n m i j k : Nat) : Nat := Sm (m - k + 1) (ts n m i j k)
theorem vs_0 (n m : Nat) : vs n m 0 = 1 := by unfold vs; rw [C_0, C_0]
theorem vs_sum (n m : Nat) (h : 2 * m ≤ n) : Sm (m + 1) (vs n m) = C n m := by
  have v := vand (n - m) m m
  rw [show n - m + m = n by omega] at v
  rw [← v]
  refine Sm_congr fun i hi => ?_
  unfold vs
  rw [C_symm (n := m) (k := i) (by omega), Nat.mul_comm]
theorem ts_symm (n m i j k s : Nat) : ts n m i j k s = ts n m j i k s := by
  unfold ts
  rw [Nat.add_comm i j, Nat.mul_right_comm (C (m - k) s)]
theorem ps_symm (n m i j k : Nat) : ps n m i j k = ps n m j i k := Sm_congr fun s _ => ts_symm n m i j k s
theorem ps_one (n m a k : Nat) (ha : a ≤ m) (hk : k ≤ m) : ps n m 0 a k = if a = k then 1 else 0 := by
  unfold ps
  rw [Sm_one (d := m - k) (by omega) (fun s hs h => by
    unfold ts
    rw [if_pos (by omega : 0 + s ≤ m), C_gt (by omega : k < m - 0 - s)]
    simp)]
  unfold ts
  rw [C_self, if_pos (by omega : 0 + (m - k) ≤ m), show m - 0 - (m - k) = k by omega, C_self]
  by_cases e : a = k
  · subst e
    rw [if_pos rfl, if_pos (by omega), if_pos (by omega), show m - a - (m - a) = 0 by omega, show 0 + a + (m - a) - m = 0 by omega, C_0, C_0]
  · rw [if_neg e]
    by_cases h : a < k
    · rw [if_neg (by omega : ¬ m ≤ 0 + a + (m - k)), Nat.mul_zero]
    · rw [if_neg (by omega : ¬ a + (m - k) ≤ m), Nat.mul_zero, Nat.zero_mul]
theorem ps_row (n m i k : Nat) (hi : i ≤ m) (hk : k ≤ m) (hn : 2 * m ≤ n) : Sm (m + 1) (fun j => ps n m i j k) = vs n m i := by
  have inner : ∀ s, s < m - k + 1 → Sm (m + 1) (fun j => ts n m i j k s) = (C (m - k) s * (if i + s ≤ m then C k (m - i - s) else 0)) * C (n - m) i := by
    intro s hs
    have e : ∀ j, ts n m i j k s = (C (m - k) s * (if i + s ≤ m then C k (m - i - s) else 0)) * ((if j + s ≤ m then C k (m - j - s) else 0) * (if m ≤ i + j + s then C (n - m - k) (i + j + s - m) else 0)) := fun j => by
      unfold ts; ac_rfl
    rw [Sm_congr fun j _ => e j, Sm_mul]
    congr 1
    have v := vand k (n - m - k) i
    rw [show k + (n - m - k) = n - m by omega] at v
    rw [← v, Sm_rev]
    -- u = m - s - j
    rw [Sm_part (d := s) (e := m - s + 1) (by omega)
      (fun u hu => by rw [if_neg (by omega : ¬ m + 1 - 1 - u + s ≤ m), Nat.zero_mul])
      (fun u h1 h2 => absurd h2 (by omega))]
    have g : ∀ u, u < m - s + 1 → (if m + 1 - 1 - (s + u) + s ≤ m then C k (m - (m + 1 - 1 - (s + u)) - s) else 0) * (if m ≤ i + (m + 1 - 1 - (s + u)) + s then C (n - m - k) (i + (m + 1 - 1 - (s + u)) + s - m) else 0) = if u ≤ i then C k u * C (n - m - k) (i - u) else 0 := by
      intro u hu
      rw [if_pos (by omega), show m - (m + 1 - 1 - (s + u)) - s = u by omega]
      by_cases h : u ≤ i
      · rw [if_pos h, if_pos (by omega), show i + (m + 1 - 1 - (s + u)) + s - m = i - u by omega]
      · rw [if_neg h, if_neg (by omega), Nat.mul_zero]
    rw [Sm_congr g]
    rw [← Sm_ext (n := m - s + 1) (m := m - s + 1 + i) (by omega) (fun u h1 h2 => by rw [C_gt (by omega : k < u)]; simp),
      Sm_ext (n := i + 1) (m := m - s + 1 + i) (by omega) (fun u h1 h2 => if_neg (by omega))]
    exact Sm_congr fun u hu => if_pos (by omega)
  show Sm (m + 1) (fun j => Sm (m - k + 1) (ts n m i j k)) = _
  rw [Sm_comm (m + 1) (m - k + 1) (fun j => ts n m i j k), Sm_congr inner, Sm_mulr]
  unfold vs
  congr 1
  have v := vand (m - k) k (m - i)
  rw [show m - k + k = m by omega, C_symm (n := m) (k := i) hi] at v
  rw [← v]
  rw [← Sm_ext (n := m - k + 1) (m := m - k + 1 + m) (by omega) (fun s h1 h2 => by rw [C_gt (by omega : m - k < s)]; simp),
    Sm_ext (n := m - i + 1) (m := m - k + 1 + m) (by omega) (fun s h1 h2 => by rw [if_neg (by omega : ¬ i + s ≤ m)]; simp)]
  exact Sm_congr fun s hs => by rw [if_pos (by omega : i + s ≤ m)]
/-- termwise -/
theorem ts_rec (n m i j k s : Nat) (hi : i ≤ m) (hk : k ≤ m) (hj : j ≤ m) (hn : 2 * m ≤ n) : vs n m k * ts n m i j k s = vs n m i * ts n m k j i s := by
  have l : ∀ i k, vs n m k * ts n m i j k s = (C m k * C (m - k) s * (if i + s ≤ m then C k (m - i - s) else 0)) * (C (n - m) k * (if j + s ≤ m then C k (m - j - s) else 0) * (if m ≤ i + j + s then C (n - m - k) (i + j + s - m) else 0)) := fun i k => by
    unfold vs ts; ac_rfl
  rw [l i k, l k i]
  -- the four parts of the one: s, m - k - s, m - i - s, i + k + s - m
  by_cases hks : k + s ≤ m
  case neg =>
    rw [C_gt (by omega : m - k < s), if_neg hks]
    simp
  case pos =>
    by_cases his : i + s ≤ m
    case neg =>
      rw [C_gt (by omega : m - i < s), if_neg his]
      simp
    case pos =>
      rw [if_pos hks, if_pos his]
      by_cases hm : m ≤ i + k + s
      case neg =>
        rw [C_gt (by omega : k < m - i - s), C_gt (by omega : i < m - k - s)]
        simp
      case pos =>
        have f1 : C m k * C (m - k) s * C k (m - i - s) = C m i * C (m - i) s * C i (m - k - s) := by
          have f := four (m - i - s) (i + k + s - m) (m - k - s) s
          -- k = p + q, i = q + r
          have g := four (m - k - s) (i + k + s - m) (m - i - s) s
          have e1 : m - i - s + (i + k + s - m) = k := by omega
          have e2 : m - k - s + (i + k + s - m) = i := by omega
          have e3 : m - i - s + (i + k + s - m) + (m - k - s) + s = m := by omega
          have e4 : m - k - s + (i + k + s - m) + (m - i - s) + s = m := by omega
          have e5 : m - k - s + s = m - k := by omega
          have e6 : m - i - s + s = m - i := by omega
          rw [e3, e1, e5] at f
          rw [e4, e2, e6] at g
          -- C (m - k) (m - k - s) = C (m - k) s
          have c1 : C (m - k) (m - k - s) = C (m - k) s := C_symm (by omega)
          have c2 : C (m - i) (m - i - s) = C (m - i) s := C_symm (by omega)
          rw [c1] at f
          rw [c2] at g
          have x : C m k * C (m - k) s * C k (m - i - s) = C m (m - i - s + (m - k - s)) * C (m - i - s + (m - k - s)) (m - i - s) * C (i + k + s - m + s) (i + k + s - m) := by
            rw [← f]; ac_rfl
          have y : C m i * C (m - i) s * C i (m - k - s) = C m (m - k - s + (m - i - s)) * C (m - k - s + (m - i - s)) (m - k - s) * C (i + k + s - m + s) (i + k + s - m) := by
            rw [← g]; ac_rfl
          rw [x, y, Nat.add_comm (m - k - s) (m - i - s)]
          congr 2
          have c3 := C_symm (n := m - i - s + (m - k - s)) (k := m - i - s) (by omega)
          rw [show m - i - s + (m - k - s) - (m - i - s) = m - k - s by omega] at c3
          exact c3.symm
        rw [f1]
        congr 1
        by_cases hjs : j + s ≤ m
        case neg => rw [if_neg hjs, if_neg hjs]; simp
        case pos =>
          rw [if_pos hjs]
          by_cases h1 : m ≤ i + j + s
          case neg =>
            rw [if_neg h1, if_pos hjs, C_gt (by omega : i < m - j - s)]
            simp
          case pos =>
            by_cases h2 : m ≤ k + j + s
            case neg =>
              rw [if_neg h2, C_gt (by omega : k < m - j - s)]
              simp
            case pos =>
              rw [if_pos h1, if_pos h2, if_pos hjs]
              -- parts of the n - m others: p = m - j - s, q = k - p, r = i + j + s - m = i - p, rest
              by_cases h3 : k + (i + j + s - m) ≤ n - m
              case pos =>
                have f := four (m - j - s) (k + j + s - m) (i + j + s - m) (n - m - (k + (i + j + s - m)))
                rw [show m - j - s + (k + j + s - m) + (i + j + s - m) + (n - m - (k + (i + j + s - m))) = n - m by omega, show m - j - s + (k + j + s - m) = k by omega,
                  show i + j + s - m + (n - m - (k + (i + j + s - m))) = n - m - k by omega, show m - j - s + (i + j + s - m) = i by omega,
                  show k + j + s - m + (n - m - (k + (i + j + s - m))) = n - m - i by omega] at f
                exact f
              case neg =>
                rw [C_gt (by omega : n - m - k < i + j + s - m), C_gt (by omega : n - m - i < k + j + s - m), Nat.mul_zero, Nat.mul_zero]
theorem ps_rec (n m i j k : Nat) (hi : i ≤ m) (hk : k ≤ m) (hj : j ≤ m) (hn : 2 * m ≤ n) : vs n m k * ps n m i j k = vs n m i * ps n m k j i := by
  unfold ps
  rw [← Sm_mul, ← Sm_mul]
  -- both over m + 1
  rw [← Sm_ext (n := m - k + 1) (m := m + 1) (by omega) (fun s h1 h2 => by unfold ts; rw [C_gt (by omega : m - k < s)]; simp),
    ← Sm_ext (n := m - i + 1) (m := m + 1) (by omega) (fun s h1 h2 => by unfold ts; rw [C_gt (by omega : m - i < s)]; simp)]
  exact Sm_congr fun s _ => ts_rec n m i j k s hi hk hj hn
end Mth

set_option linter.all false
namespace Mth
/-! ### what a scheme's numbers keep -/
structure Laws (d : Nat) (v : Nat → Nat) (p : Nat → Nat → Nat → Nat) (N : Nat) : Prop where
  pos : 0 < d
  v0 : v 0 = 1
  vsum : Sm d v = N
  sym : ∀ i, i < d → ∀ j, j < d → ∀ k, k < d → p i j k = p j i k
  row : ∀ i, i < d → ∀ k, k < d → Sm d (fun j => p i j k) = v i
  one : ∀ a, a < d → ∀ k, k < d → p 0 a k = if a = k then 1 else 0
  rcp : ∀ i, i < d → ∀ j, j < d → ∀ k, k < d → v k * p i j k = v i * p k j i
theorem Laws.congr {d N : Nat} {v v' : Nat → Nat} {p p' : Nat → Nat → Nat → Nat} (L : Laws d v p N) (hv : ∀ i, i < d → v' i = v i) (hp : ∀ i, i < d → ∀ j, j < d → ∀ k, k < d → p' i j k = p i j k) : Laws d v' p' N where
  pos := L.pos
  v0 := by rw [hv 0 L.pos, L.v0]
  vsum := by rw [Sm_congr hv, L.vsum]
  sym := fun i hi j hj k hk => by rw [hp i hi j hj k hk, hp j hj i hi k hk, L.sym i hi j hj k hk]
  row := fun i hi k hk => by rw [Sm_congr fun j hj => hp i hi j hj k hk, L.row i hi k hk, hv i hi]
  one := fun a ha k hk => by rw [hp 0 L.pos a ha k hk, L.one a ha k hk]
  rcp := fun i hi j hj k hk => by rw [hp i hi j hj k hk, hp k hk j hj i hi, hv k hk, hv i hi, L.rcp i hi j hj k hk]
theorem Laws.v_le {d N : Nat} {v : Nat → Nat} {p : Nat → Nat → Nat → Nat} (L : Laws d v p N) {i : Nat} (h : i < d) : v i ≤ N := by
  rw [← L.vsum]
  exact Sm_le h
theorem Laws.p_le {d N : Nat} {v : Nat → Nat} {p : Nat → Nat → Nat → Nat} (L : Laws d v p N) {i j k : Nat} (hi : i < d) (hj : j < d) (hk : k < d) : p i j k ≤ N := by
  refine Nat.le_trans ?_ (L.v_le hi)
  rw [← L.row i hi k hk]
  exact Sm_le (f := fun j => p i j k) hj
theorem laws_words (n x : Nat) : Laws (n + 1) (vw n x) (pw n x) ((x + 2) ^ n) where
  pos := Nat.succ_pos n
  v0 := vw_0 n x
  vsum := vw_sum n x
  sym := fun i _ j _ k _ => pw_symm n x i j k
  row := fun i hi k hk => pw_row n x i k (by omega) (by omega)
  one := fun a _ k hk => pw_one n x a k (by omega)
  rcp := fun i hi j _ k hk => pw_rec n x i j k (by omega) (by omega)
theorem laws_sets (n m : Nat) (h : 2 * m ≤ n) : Laws (m + 1) (vs n m) (ps n m) (C n m) where
  pos := Nat.succ_pos m
  v0 := vs_0 n m
  vsum := vs_sum n m h
  sym := fun i _ j _ k _ => ps_symm n m i j k
  row := fun i hi k hk => ps_row n m i k (by omega) (by omega) h
  one := fun a ha k hk => ps_one n m a k (by omega) (by omega)
  rcp := fun i hi j hj k hk => ps_rec n m i j k (by omega) (by omega) (by omega) h
/-! ### products -/
theorem Sm_prod (e : Nat) (he : 0 < e) (g : Nat → Nat) : ∀ (d : Nat) (f : Nat → Nat), Sm (d * e) (fun i => f (i / e) * g (i % e)) = Sm d f * Sm e g
  | 0, f => by rw [Nat.zero_mul]; show 0 = 0 * Sm e g; omega
  | d + 1, f => by
    rw [Nat.succ_mul, Sm_shift, Sm_prod e he g d f, Sm_s, Nat.add_mul]
    congr 1
    rw [← Sm_mul]
    refine Sm_congr fun i hi => ?_
    rw [Nat.mul_comm d e, Nat.mul_add_div he, Nat.div_eq_of_lt hi, Nat.add_zero, Nat.mul_add_mod, Nat.mod_eq_of_lt hi]
theorem div_lt_of {i d e : Nat} (h : i < d * e) : i / e < d := by
  rcases Nat.eq_zero_or_pos e with z | z
  · subst z; omega
  · exact (Nat.div_lt_iff_lt_mul z).mpr h
theorem mod_lt_of {i d e : Nat} (h : i < d * e) : i % e < e := by
  refine Nat.mod_lt _ ?_
  rcases Nat.eq_zero_or_pos e with z | z
  · subst z; omega
  · exact z
def vP (e : Nat) (v1 v2 : Nat → Nat) (i : Nat) : Nat := v1 (i / e) * v2 (i % e)
def pP (e : Nat) (p1 p2 : Nat → Nat → Nat → Nat) (i j k : Nat) : Nat := p1 (i / e) (j / e) (k / e) * p2 (i % e) (j % e) (k % e)
theorem eq_of_divmod {a k e : Nat} (h1 : a / e = k / e) (h2 : a % e = k % e) : a = k := by
  have x := Nat.div_add_mod a e
  have y := Nat.div_add_mod k e
  rw [← x, ← y, h1, h2]
theorem Laws.prod {d e N M : Nat} {v1 v2 : Nat → Nat} {p1 p2 : Nat → Nat → Nat → Nat} (A : Laws d v1 p1 N) (B : Laws e v2 p2 M) : Laws (d * e) (vP e v1 v2) (pP e p1 p2) (N * M) where
  pos := Nat.mul_pos A.pos B.pos
  v0 := by unfold vP; rw [Nat.zero_div, Nat.zero_mod, A.v0, B.v0]
  vsum := by
    show Sm (d * e) (fun i => v1 (i / e) * v2 (i % e)) = _
    rw [Sm_prod e B.pos v2 d v1, A.vsum, B.vsum]
  sym := fun i hi j hj k hk => by
    unfold pP
    rw [A.sym _ (div_lt_of hi) _ (div_lt_of hj) _ (div_lt_of hk), B.sym _ (mod_lt_of hi) _ (mod_lt_of hj) _ (mod_lt_of hk)]
  row := fun i hi k hk => by
    show Sm (d * e) (fun j => p1 (i / e) (j / e) (k / e) * p2 (i % e) (j % e) (k % e)) = _
    rw [Sm_prod e B.pos (fun b => p2 (i % e) b (k % e)) d (fun a => p1 (i / e) a (k / e)), A.row _ (div_lt_of hi) _ (div_lt_of hk), B.row _ (mod_lt_of hi) _ (mod_lt_of hk)]
    rfl
  one := fun a ha k hk => by
    unfold pP
    rw [Nat.zero_div, Nat.zero_mod, A.one _ (div_lt_of ha) _ (div_lt_of hk), B.one _ (mod_lt_of ha) _ (mod_lt_of hk)]
    by_cases h1 : a / e = k / e
    · by_cases h2 : a % e = k % e
      · rw [if_pos h1, if_pos h2, if_pos (eq_of_divmod h1 h2)]
      · rw [if_neg h2, if_neg (fun z : a = k => h2 (by rw [z])), Nat.mul_zero]
    · rw [if_neg h1, if_neg (fun z : a = k => h1 (by rw [z])), Nat.zero_mul]
  rcp := fun i hi j hj k hk => by
    unfold vP pP
    have x := A.rcp _ (div_lt_of hi) _ (div_lt_of hj) _ (div_lt_of hk)
    have y := B.rcp _ (mod_lt_of hi) _ (mod_lt_of hj) _ (mod_lt_of hk)
    have l : ∀ a b c d : Nat, a * b * (c * d) = (a * c) * (b * d) := fun a b c d => by ac_rfl
    rw [l (v1 (k / e)), l (v1 (i / e)), x, y]
/-! ### listed schemes -/
def at2 (R : List (List Int)) (x y : Nat) : Int := (R.getD x []).getD y 0
/-- how many places hold i in the one and j in the other -/
def pc (a b : List Int) (i j : Int) : Nat := (a.zip b).countP fun z => z.1 == i && z.2 == j
def vR (R : List (List Int)) (i : Nat) : Nat := (R.getD 0 []).count (i : Int)
def pR (R : List (List Int)) (i j k : Nat) : Nat := pc (R.getD 0 []) (R.getD ((R.getD 0 []).idxOf (k : Int)) []) i j
structure TabOk (d : Nat) (R : List (List Int)) : Prop where
  dpos : 1 ≤ d
  dle : d ≤ 8
  spos : 1 ≤ R.length
  sle : R.length ≤ 24
  rect : ∀ r ∈ R, r.length = R.length
  ent : ∀ x, x < R.length → ∀ y, y < R.length → 0 ≤ at2 R x y ∧ at2 R x y < d
  occ : ∀ k : Nat, k < d → (k : Int) ∈ R.getD 0 []
  diag : ∀ x, x < R.length → ∀ y, y < R.length → (at2 R x y = 0 ↔ x = y)
  symm : ∀ x, x < R.length → ∀ y, y < R.length → at2 R x y = at2 R y x
  cnt : ∀ x, x < R.length → ∀ y, y < R.length → ∀ i, i < d → ∀ j, j < d → pc (R.getD x []) (R.getD y []) (i : Nat) (j : Nat) = pR R i j (at2 R x y).toNat
  laws : Laws d (vR R) (pR R) R.length
/-- the table with its points renamed -/
def ren (T : List (List Int)) (ns : List Nat) : List (List Int) := ns.map fun r => ns.map fun c => at2 T r c
/-- what is checked of a table by reckoning -/
def lawsB (d : Nat) (v : Nat → Nat) (p : Nat → Nat → Nat → Nat) (N : Nat) : Bool :=
  decide (0 < d) && decide (v 0 = 1) && decide (Sm d v = N) && decide (∀ i, i < d → ∀ j, j < d → ∀ k, k < d → p i j k = p j i k) && decide (∀ i, i < d → ∀ k, k < d → Sm d (fun j => p i j k) = v i) &&
    decide (∀ a, a < d → ∀ k, k < d → p 0 a k = if a = k then 1 else 0) && decide (∀ i, i < d → ∀ j, j < d → ∀ k, k < d → v k * p i j k = v i * p k j i)
theorem lawsB_ok {d N : Nat} {v : Nat → Nat} {p : Nat → Nat → Nat → Nat} (h : lawsB d v p N = true) : Laws d v p N := by
  unfold lawsB at h
  simp only [Bool.and_eq_true, decide_eq_true_eq] at h
  obtain ⟨⟨⟨⟨⟨⟨h1, h2⟩, h3⟩, h4⟩, h5⟩, h6⟩, h7⟩ := h
  exact ⟨h1, h2, h3, h4, h5, h6, h7⟩
/-- a table whose rows all count alike -/
structure Base (d n : Nat) (T : List (List Int)) : Prop where
  dpos : 1 ≤ d
  dle : d ≤ 8
  spos : 1 ≤ n
  sle : n ≤ 24
  len : T.length = n
  rect : ∀ r ∈ T, r.length = n
  ent : ∀ x, x < n → ∀ y, y < n → 0 ≤ at2 T x y ∧ at2 T x y < d
  occ : ∀ x, x < n → ∀ k, k < d → ∃ y, y < n ∧ at2 T x y = (k : Nat)
  diag : ∀ x, x < n → ∀ y, y < n → (at2 T x y = 0 ↔ x = y)
  symm : ∀ x, x < n → ∀ y, y < n → at2 T x y = at2 T y x
  val : ∀ x, x < n → ∀ i, i < d → (T.getD x []).count ((i : Nat) : Int) = vR T i
  cnt : ∀ x, x < n → ∀ y, y < n → ∀ i, i < d → ∀ j, j < d → pc (T.getD x []) (T.getD y []) (i : Nat) (j : Nat) = pR T i j (at2 T x y).toNat
  laws : Laws d (vR T) (pR T) n
def baseB (d n : Nat) (T : List (List Int)) : Bool :=
  decide (1 ≤ d) && decide (d ≤ 8) && decide (1 ≤ n) && decide (n ≤ 24) && decide (T.length = n) && (T.all fun r => decide (r.length = n)) && decide (∀ x, x < n → ∀ y, y < n → 0 ≤ at2 T x y ∧ at2 T x y < d) &&
    decide (∀ x, x < n → ∀ k, k < d → ((List.range n).any fun y => decide (at2 T x y = (k : Nat))) = true) && decide (∀ x, x < n → ∀ y, y < n → (at2 T x y = 0 ↔ x = y)) && decide (∀ x, x < n → ∀ y, y < n → at2 T x y = at2 T y x) &&
    decide (∀ x, x < n → ∀ i, i < d → (T.getD x []).count ((i : Nat) : Int) = vR T i) &&
    decide (∀ x, x < n → ∀ y, y < n → ∀ i, i < d → ∀ j, j < d → pc (T.getD x []) (T.getD y []) (i : Nat) (j : Nat) = pR T i j (at2 T x y).toNat) && lawsB d (vR T) (pR T) n
theorem baseB_ok {d n : Nat} {T : List (List Int)} (h : baseB d n T = true) : Base d n T := by
  unfold baseB at h
  simp only [Bool.and_eq_true, decide_eq_true_eq] at h
  obtain ⟨⟨⟨⟨⟨⟨⟨⟨⟨⟨⟨⟨h1, h2⟩, h3⟩, h4⟩, h5⟩, h6⟩, h7⟩, h8⟩, h9⟩, h10⟩, h11⟩, h12⟩, h13⟩ := h
  refine ⟨h1, h2, h3, h4, h5, fun r hr => of_decide_eq_true (List.all_eq_true.mp h6 r hr), h7, fun x hx k hk => ?_, h9, h10, h11, h12, lawsB_ok h13⟩
  obtain ⟨y, hy, e⟩ := List.any_eq_true.mp (h8 x hx k hk)
  exact ⟨y, List.mem_range.mp hy, of_decide_eq_true e⟩
section
variable {d n : Nat} {T : List (List Int)} {ns : List Nat}
theorem ren_row {x : Nat} (hx : x < ns.length) : (ren T ns).getD x [] = ns.map fun c => at2 T (ns.getD x 0) c := by
  unfold ren
  rw [List.getD_eq_getElem?_getD, List.getElem?_map, List.getElem?_eq_getElem hx, List.getD_eq_getElem?_getD, List.getElem?_eq_getElem hx]
  rfl
theorem ren_at {x y : Nat} (hx : x < ns.length) (hy : y < ns.length) : at2 (ren T ns) x y = at2 T (ns.getD x 0) (ns.getD y 0) := by
  unfold at2
  rw [ren_row hx, List.getD_eq_getElem?_getD, List.getElem?_map, List.getElem?_eq_getElem hy]
  show at2 T (ns.getD x 0) ns[y] = _
  rw [List.getD_eq_getElem?_getD (l := ns) (i := y), List.getElem?_eq_getElem hy]
  rfl
theorem zip_map2 {α β γ : Type} (f : α → β) (g : α → γ) : ∀ l : List α, (l.map f).zip (l.map g) = l.map fun a => (f a, g a)
  | [] => rfl
  | a :: r => by
    show (f a, g a) :: (r.map f).zip (r.map g) = _
    rw [zip_map2 f g r]
    rfl
theorem row_map (B : Base d n T) {x : Nat} (hx : x < n) : T.getD x [] = (List.range n).map fun c => at2 T x c := by
  have hl : (T.getD x []).length = n := by
    rw [List.getD_eq_getElem?_getD, List.getElem?_eq_getElem (by rw [B.len]; exact hx)]
    exact B.rect _ (List.getElem_mem _)
  apply List.ext_getElem
  · rw [hl, List.length_map, List.length_range]
  · intro i h1 h2
    rw [List.getElem_map, List.getElem_range]
    unfold at2
    rw [List.getD_eq_getElem?_getD (i := i), List.getElem?_eq_getElem h1]
    rfl
theorem pc_ren (B : Base d n T) (hp : ns.Perm (List.range n)) {x y : Nat} (hx : x < n) (hy : y < n) (i j : Int) : pc (ns.map fun c => at2 T x c) (ns.map fun c => at2 T y c) i j = pc (T.getD x []) (T.getD y []) i j := by
  unfold pc
  rw [row_map B hx, row_map B hy, zip_map2, zip_map2]
  exact (hp.map _).countP_eq _
theorem count_ren (B : Base d n T) (hp : ns.Perm (List.range n)) {x : Nat} (hx : x < n) (i : Int) : (ns.map fun c => at2 T x c).count i = (T.getD x []).count i := by
  rw [row_map B hx]
  exact (hp.map _).countP_eq _
theorem name_lt (hp : ns.Perm (List.range n)) {x : Nat} (hx : x < ns.length) : ns.getD x 0 < n := by
  have : ns.getD x 0 ∈ ns := by
    rw [List.getD_eq_getElem?_getD, List.getElem?_eq_getElem hx]
    exact List.getElem_mem _
  exact List.mem_range.mp (hp.mem_iff.mp this)
theorem idx_at {l : List Int} {k : Int} (h : k ∈ l) : l.idxOf k < l.length ∧ l.getD (l.idxOf k) 0 = k := by
  have h1 := List.idxOf_lt_length_of_mem h
  refine ⟨h1, ?_⟩
  rw [List.getD_eq_getElem?_getD, List.getElem?_eq_getElem h1]
  exact List.getElem_idxOf h1
theorem pR_ren (B : Base d n T) (hp : ns.Perm (List.range n)) {i j k : Nat} (hi : i < d) (hj : j < d) (hk : k < d) (occ : (k : Int) ∈ (ren T ns).getD 0 []) : pR (ren T ns) i j k = pR T i j k := by
  have hl : ns.length = n := by rw [hp.length_eq, List.length_range]
  have h0 : 0 < ns.length := by rw [hl]; exact B.spos
  obtain ⟨h1, h2⟩ := idx_at occ
  have hrl : ((ren T ns).getD 0 []).length = ns.length := by rw [ren_row h0, List.length_map]
  rw [hrl] at h1
  have e : at2 (ren T ns) 0 (((ren T ns).getD 0 []).idxOf (k : Int)) = k := h2
  rw [ren_at h0 h1] at e
  show pc ((ren T ns).getD 0 []) ((ren T ns).getD (((ren T ns).getD 0 []).idxOf (k : Int)) []) i j = _
  generalize ((ren T ns).getD 0 []).idxOf (k : Int) = y at h1 e
  rw [ren_row h1, ren_row h0, pc_ren B hp (name_lt hp h0) (name_lt hp h1), B.cnt _ (name_lt hp h0) _ (name_lt hp h1) i hi j hj, e, Int.toNat_natCast]
theorem tab_ren (B : Base d n T) (hp : ns.Perm (List.range n)) : TabOk d (ren T ns) := by
  have hl : ns.length = n := by rw [hp.length_eq, List.length_range]
  have hR : (ren T ns).length = n := by unfold ren; rw [List.length_map, hl]
  have h0 : 0 < ns.length := by rw [hl]; exact B.spos
  have occ : ∀ k : Nat, k < d → (k : Int) ∈ (ren T ns).getD 0 [] := fun k hk => by
    obtain ⟨y, hy, e⟩ := B.occ _ (name_lt hp h0) k hk
    rw [ren_row h0, ← e]
    exact List.mem_map.mpr ⟨y, hp.mem_iff.mpr (List.mem_range.mpr hy), rfl⟩
  have hn : ∀ {x}, x < (ren T ns).length → x < ns.length := fun {x} h => by rw [hR, ← hl] at h; exact h
  refine ⟨B.dpos, B.dle, by rw [hR]; exact B.spos, by rw [hR]; exact B.sle, fun r hr => ?_, fun x hx y hy => ?_, occ, fun x hx y hy => ?_, fun x hx y hy => ?_, fun x hx y hy i hi j hj => ?_, ?_⟩
  · unfold ren at hr
    obtain ⟨c, _, rfl⟩ := List.mem_map.mp hr
    rw [List.length_map, hR, hl]
  · rw [ren_at (hn hx) (hn hy)]
    exact B.ent _ (name_lt hp (hn hx)) _ (name_lt hp (hn hy))
  · rw [ren_at (hn hx) (hn hy), B.diag _ (name_lt hp (hn hx)) _ (name_lt hp (hn hy))]
    have hnd : ns.Nodup := hp.nodup_iff.mpr List.nodup_range
    constructor
    · intro e
      rw [List.getD_eq_getElem?_getD, List.getElem?_eq_getElem (hn hx), List.getD_eq_getElem?_getD, List.getElem?_eq_getElem (hn hy)] at e
      exact (List.getElem_inj hnd).mp e
    · intro e
      rw [e]
  · rw [ren_at (hn hx) (hn hy), ren_at (hn hy) (hn hx)]
    exact B.symm _ (name_lt hp (hn hx)) _ (name_lt hp (hn hy))
  · have a := name_lt hp (hn hx)
    have b := name_lt hp (hn hy)
    have e := B.ent _ a _ b
    rw [ren_row (hn hx), ren_row (hn hy), pc_ren B hp a b, B.cnt _ a _ b i hi j hj, ren_at (hn hx) (hn hy)]
    refine (pR_ren B hp hi hj (by omega) (occ _ (by omega))).symm
  · rw [hR]
    refine B.laws.congr (fun i hi => ?_) (fun i hi j hj k hk => pR_ren B hp hi hj hk (occ k hk))
    show ((ren T ns).getD 0 []).count (i : Int) = _
    rw [ren_row h0, count_ren B hp (name_lt hp h0)]
    exact B.val _ (name_lt hp h0) i hi
end
end Mth

set_option linter.all false
namespace Mth
/-! ### the eight tables -/
def mk (n : Nat) (f : Int → Int → Int) : List (List Int) := (List.range n).map fun (r : Nat) => (List.range n).map fun (c : Nat) => f (r : Int) (c : Int)
def b2 (p : Prop) [Decidable p] : Int := if p then 1 else 0
def ring6 : List Int := [0, 1, 2, 3, 2, 1]
def ring5 : List Int := [0, 1, 2, 2, 1]
def f1 (r c : Int) : Int := b2 (r ≠ c)
def f2 (r c : Int) : Int := if r = c then 0 else 1 + b2 (r / 2 = c / 2)
def f3 (r c : Int) : Int := ring6.getD ((r - c) % 6).toNat 0
def f4 (r c : Int) : Int := ring5.getD ((r - c) % 5).toNat 0
def f5 (r c : Int) : Int := b2 (r / 3 ≠ c / 3) + b2 (r % 3 ≠ c % 3)
def f7 (r c : Int) : Int := if r = c then 0 else 1 + b2 ((r + c) % 2 = 0)
/-- one more member to each set -/
def nxt (one : List Int) : Int := match one.getLast? with
  | some z => z + 1
  | none => 0
def ext1 (n : Int) (one : List Int) : List (List Int) := (List.range (n - nxt one).toNat).map fun (i : Nat) => one ++ [nxt one + (i : Int)]
def longer (n : Int) (found : List (List Int)) : List (List Int) := found.flatMap (ext1 n)
def pairs : List (List Int) := [[0, 1], [0, 2], [0, 3], [0, 4], [1, 2], [1, 3], [1, 4], [2, 3], [2, 4], [3, 4]]
theorem longer_twice : longer 5 (longer 5 [[]]) = pairs := by decide +kernel
def com (a b : List Int) : Int := 2 - ((a.filter fun x => decide (x ∈ b)).length : Int)
def t6 : List (List Int) := pairs.map fun a => pairs.map fun b => com a b
def tabOf : Nat → List (List Int)
  | 0 => [[0]]
  | 1 => mk 4 f1
  | 2 => mk 6 f2
  | 3 => mk 6 f3
  | 4 => mk 5 f4
  | 5 => mk 9 f5
  | 6 => t6
  | _ => mk 4 f7
theorem base_tab : ∀ m : Nat, ∃ d n, Base d n (tabOf m)
  | 0 => ⟨1, 1, baseB_ok (by decide +kernel)⟩
  | 1 => ⟨2, 4, baseB_ok (by decide +kernel)⟩
  | 2 => ⟨3, 6, baseB_ok (by decide +kernel)⟩
  | 3 => ⟨4, 6, baseB_ok (by decide +kernel)⟩
  | 4 => ⟨3, 5, baseB_ok (by decide +kernel)⟩
  | 5 => ⟨3, 9, baseB_ok (by decide +kernel)⟩
  | 6 => ⟨3, 10, baseB_ok (by decide +kernel)⟩
  | _ + 7 => ⟨3, 4, baseB_ok (T := mk 4 f7) (by decide +kernel)⟩
theorem tab_len (m : Nat) : 1 ≤ (tabOf m).length ∧ (tabOf m).length ≤ 10 := by
  match m with
  | 0 => decide +kernel
  | 1 => decide +kernel
  | 2 => decide +kernel
  | 3 => decide +kernel
  | 4 => decide +kernel
  | 5 => decide +kernel
  | 6 => decide +kernel
  | _ + 7 => exact (by decide +kernel : 1 ≤ (mk 4 f7).length ∧ (mk 4 f7).length ≤ 10)
theorem tab_rect (m : Nat) : ∀ r ∈ tabOf m, r.length = (tabOf m).length := by
  obtain ⟨d, n, B⟩ := base_tab m
  intro r hr
  rw [B.rect r hr, B.len]
/-! ### swaps -/
theorem swap_perm {l : List Nat} {i j a b : Nat} (hi : l[i]? = some a) (hj : l[j]? = some b) : ((l.set i b).set j a).Perm l := by
  obtain ⟨h1, e1⟩ := List.getElem?_eq_some_iff.mp hi
  obtain ⟨h2, e2⟩ := List.getElem?_eq_some_iff.mp hj
  refine List.perm_iff_count.mpr fun x => ?_
  have l2 : j < (l.set i b).length := by rw [List.length_set]; exact h2
  have c1 := List.count_set (a := b) (b := x) h1
  have c2 := List.count_set (l := l.set i b) (a := a) (b := x) l2
  have e3 : (l.set i b)[j] = b := by
    rw [List.getElem_set]
    by_cases h : i = j
    · rw [if_pos h]
    · rw [if_neg h, e2]
  rw [c2, c1, e3, e1]
  have p1 : (a == x) = true → 1 ≤ l.count x := fun h => by
    have hx : x ∈ l := by
      rw [← eq_of_beq h, ← e1]
      exact List.getElem_mem h1
    exact List.count_pos_iff.mpr hx
  by_cases ha : (a == x) = true <;> by_cases hb : (b == x) = true <;> simp [ha, hb]
  all_goals (try have := p1 ha); omega
/-! ### trees -/
inductive Tr where
  | words (n x : Nat)
  | sets (n m : Nat)
  | listed (d : Nat) (R : List (List Int))
  | prod (a b : Tr)
namespace Tr
def depth : Tr → Nat
  | words _ _ => 0
  | sets _ _ => 0
  | listed _ _ => 0
  | prod a b => max a.depth b.depth + 1
def kn : Tr → Nat
  | words n _ => n + 1
  | sets _ m => m + 1
  | listed d _ => d
  | prod a b => a.kn * b.kn
def pts : Tr → Nat
  | words n x => (x + 2) ^ n
  | sets n m => C n m
  | listed _ R => R.length
  | prod a b => a.pts * b.pts
def v : Tr → Nat → Nat
  | words n x => vw n x
  | sets n m => vs n m
  | listed _ R => vR R
  | prod a b => vP b.kn a.v b.v
def p : Tr → Nat → Nat → Nat → Nat
  | words n x => pw n x
  | sets n m => ps n m
  | listed _ R => pR R
  | prod a b => pP b.kn a.p b.p
/-- leaves as the law draws them -/
def Leaf : Tr → Prop
  | words n x => 1 ≤ n ∧ n ≤ 12 ∧ x ≤ 18
  | sets n m => 1 ≤ m ∧ m ≤ 8 ∧ 2 * m ≤ n ∧ n ≤ 2 * m + 8
  | listed d R => TabOk d R
  | prod _ _ => False
/-- trees as the law draws them -/
def Good : Tr → Prop
  | prod a b => (∃ n x, a = words n x ∧ 1 ≤ n ∧ n ≤ 2 ∧ x ≤ 2) ∧ b.Leaf
  | t => t.Leaf
theorem good_leaf : ∀ {t : Tr}, t.Leaf → t.Good
  | words _ _, h => h
  | sets _ _, h => h
  | listed _ _, h => h
  | prod _ _, h => h.elim
theorem laws_leaf : ∀ {t : Tr}, t.Leaf → Laws t.kn t.v t.p t.pts
  | words n x, _ => laws_words n x
  | sets n m, h => laws_sets n m h.2.2.1
  | listed d R, h => TabOk.laws h
  | prod _ _, h => h.elim
theorem small_words {n x : Nat} (hn : n ≤ 2) (hx : x ≤ 2) : (x + 2) ^ n ≤ 16 := Nat.le_trans (Nat.pow_le_pow_left (by omega : x + 2 ≤ 4) n) (Nat.le_trans (Nat.pow_le_pow_right (by decide) hn) (by decide))
theorem leaf_pts : ∀ {t : Tr}, t.Leaf → t.pts ≤ 2 ^ 53
  | words n x, h => by
    obtain ⟨_, h2, h3⟩ := (h : 1 ≤ n ∧ n ≤ 12 ∧ x ≤ 18)
    exact Nat.le_trans (Nat.pow_le_pow_left (by omega : x + 2 ≤ 20) n) (Nat.le_trans (Nat.pow_le_pow_right (by decide) h2) (by decide))
  | sets n m, h => by
    obtain ⟨_, h2, _, h4⟩ := (h : 1 ≤ m ∧ m ≤ 8 ∧ 2 * m ≤ n ∧ n ≤ 2 * m + 8)
    exact Nat.le_trans (C_le_two n m) (Nat.pow_le_pow_right (by decide) (by omega))
  | listed d R, h => Nat.le_trans (TabOk.sle h) (by decide)
  | prod _ _, h => h.elim
theorem laws_good : ∀ {t : Tr}, t.Good → Laws t.kn t.v t.p t.pts
  | words n x, _ => laws_words n x
  | sets n m, h => laws_sets n m h.2.2.1
  | listed d R, h => TabOk.laws h
  | prod a b, h => by
    obtain ⟨⟨n, x, rfl, _⟩, hb⟩ := h
    exact (laws_words n x).prod (laws_leaf hb)
theorem good_pts : ∀ {t : Tr}, t.Good → t.pts ≤ 2 ^ 60
  | words n x, h => Nat.le_trans (leaf_pts (t := words n x) h) (by decide)
  | sets n m, h => Nat.le_trans (leaf_pts (t := sets n m) h) (by decide)
  | listed d R, h => Nat.le_trans (leaf_pts (t := listed d R) h) (by decide)
  | prod a b, h => by
    obtain ⟨⟨n, x, rfl, _, h2, h3⟩, hb⟩ := h
    have h1 := leaf_pts hb
    have h4 := small_words h2 h3
    show (x + 2) ^ n * b.pts ≤ 2 ^ 60
    exact Nat.le_trans (Nat.mul_le_mul h4 h1) (by decide)
theorem leaf_kn : ∀ {t : Tr}, t.Leaf → t.kn ≤ 13
  | words n x, h => by
    obtain ⟨_, h2, _⟩ := (h : 1 ≤ n ∧ n ≤ 12 ∧ x ≤ 18)
    show n + 1 ≤ 13
    omega
  | sets n m, h => by
    obtain ⟨_, h2, _⟩ := (h : 1 ≤ m ∧ m ≤ 8 ∧ 2 * m ≤ n ∧ n ≤ 2 * m + 8)
    show m + 1 ≤ 13
    omega
  | listed d R, h => by
    have := TabOk.dle h
    show d ≤ 13
    omega
  | prod _ _, h => h.elim
theorem good_kn : ∀ {t : Tr}, t.Good → t.kn ≤ 39
  | words n x, h => Nat.le_trans (leaf_kn (t := words n x) h) (by decide)
  | sets n m, h => Nat.le_trans (leaf_kn (t := sets n m) h) (by decide)
  | listed d R, h => Nat.le_trans (leaf_kn (t := listed d R) h) (by decide)
  | prod a b, h => by
    obtain ⟨⟨n, x, rfl, _, h2, h3⟩, hb⟩ := h
    have h1 := leaf_kn hb
    show (n + 1) * b.kn ≤ 39
    exact Nat.le_trans (Nat.mul_le_mul (by omega : n + 1 ≤ 3) h1) (by decide)
theorem leaf_depth : ∀ {t : Tr}, t.Leaf → t.depth = 0
  | words _ _, _ => rfl
  | sets _ _, _ => rfl
  | listed _ _, _ => rfl
  | prod _ _, h => h.elim
theorem good_depth : ∀ {t : Tr}, t.Good → t.depth ≤ 1
  | words _ _, _ => Nat.zero_le _
  | sets _ _, _ => Nat.zero_le _
  | listed _ _, _ => Nat.zero_le _
  | prod a b, h => by
    obtain ⟨⟨n, x, rfl, _⟩, hb⟩ := h
    show max 0 b.depth + 1 ≤ 1
    rw [leaf_depth hb]
    decide
end Tr
end Mth

set_option Elab.async false
set_option linter.all false
set_option maxRecDepth 100000
set_option maxHeartbeats 4000000
/-! rules that the hand layer lacks: sum, max of a tuple of ints; tuple.count, tuple.index of ints; a range object in a name walked -/
namespace PySem
open Sem (wp)
section
variable {prog : Program} {w : World} {A : Around} {E : Value → Shared → Prop} {s : Shared} {l : Addr} {xs : Array (Int × Tok)}
theorem iter_intTuple {Q : Value → Shared → Prop} (hl : s.heap.IsTuple l (intItems xs))
    (h : ∀ s₂ : Shared, s₂ = { s with heap := s.heap.push { cls := .type "tuple_iterator", data := .fields #[.ref l, .int 0 0] } } →
      (s₂.heap.IsTupleIter s.heap.objs.size l 0 ∧ s₂.heap.IsTuple l (intItems xs)) → (∀ b ∈ [s.heap.objs.size, l], b < s₂.heap.objs.size) → l ≠ s.heap.objs.size → Q (.ref s.heap.objs.size) s₂) :
    wpAny (model prog w) A (pyIter (.ref l)) Q E s := by
  have hlt : l < s.heap.objs.size := by obtain ⟨_, e, _⟩ := hl; exact Heap.lt_size e
  refine wpAny_pyIter_tuple hl (h _ rfl ⟨⟨_, Heap.get?_push_size _ rfl, rfl, rfl⟩, hl.push _⟩ (fun b hb => ?_) (Nat.ne_of_lt hlt))
  show b < (s.heap.push _).objs.size
  rw [Heap.size_push]
  rcases List.mem_cons.mp hb with rfl | hb
  · exact Nat.lt_succ_self _
  · rcases List.mem_cons.mp hb with rfl | hb
    · exact Nat.lt_succ_of_lt hlt
    · cases hb
theorem old_keptT {h' : Heap} (hk : ∀ b o, b ∉ [s.heap.objs.size] → (s.heap.push { cls := .type "tuple_iterator", data := .fields #[.ref l, .int 0 0] }).get? b = some o → h'.get? b = some o) :
    ∀ b o, s.heap.get? b = some o → h'.get? b = some o := fun b o e => by
  refine hk b o (fun hm => ?_) (Heap.get?_push_of_some _ e)
  rcases List.mem_cons.mp hm with e1 | hm
  · exact absurd (e1 ▸ Heap.lt_size e) (Nat.lt_irrefl _)
  · cases hm
theorem max_intTuple {Q : Value → Shared → Prop} (hh : A.handled = none) (hl : s.heap.IsTuple l (intItems xs)) (hne : 0 < xs.size)
    (h : ∀ v h' tk, (intItems xs)[argBest (fun i j => decide (numAt xs i > numAt xs j)) (xs.size - 1)]? = some v → (∀ b o, s.heap.get? b = some o → h'.get? b = some o) → Q v { s with heap := h', toks := tk }) :
    wpAny (model prog w) A (call (.builtin "max") [.ref l]) Q E s := by
  refine call_max_walk (iter_intTuple hl fun s₂ e st hfp hlI => ?_)
  subst e
  refine ⟨_, _, _, _, _, _, _, rfl, Walks.tuple (A := A.in1) hh _ l hlI (intItems xs), st, hfp, by simpa [intItems] using hne, CmpOf.ints_gt (numAt xs) (fun _ _ => intItems_at), fun v h' tk hP hk => ?_⟩
  exact h v h' tk (by simpa [intItems] using hP) (old_keptT hk)
theorem sum_intTuple {Q : Value → Shared → Prop} (hh : A.handled = none) (hl : s.heap.IsTuple l (intItems xs))
    (h : ∀ h' tk t', (∀ b o, s.heap.get? b = some o → h'.get? b = some o) → Q (.int (preSum (numAt xs) xs.size) t') { s with heap := h', toks := tk }) :
    wpAny (model prog w) A (call (.builtin "sum") [.ref l]) Q E s := by
  refine call_sum_walkG (iter_intTuple hl fun s₂ e st hfp hlI => ?_)
  subst e
  refine ⟨_, _, _, _, _, _, numAt xs, rfl, Walks.tuple (A := A.in1) hh _ l hlI (intItems xs), st, hfp, (fun _ _ => intItems_at), fun h' tk t' hk => ?_⟩
  have := h h' tk t' (old_keptT hk)
  simpa [intItems] using this
end
end PySem
namespace L2
open PySem PySem.Spec PyProof.Rows
section
variable {prog : Program} {w : World} {A : Around} {E : Value → Shared → Prop} {s : Shared} {l : Addr} {its : List Value} {ns : List Int} {Q : Value → Shared → Prop}
theorem sumT_raw (hh : A.handled = none) (hl : s.heap.IsTuple l its.toArray) (hi : IntsAre its ns)
    (h : ∀ h' tk t', (∀ b o, s.heap.get? b = some o → h'.get? b = some o) → Q (.int ns.sum t') { s with heap := h', toks := tk }) : wpAny (model prog w) A (call (.builtin "sum") [.ref l]) Q E s := by
  obtain ⟨xs, e⟩ := hi.allInts.items
  have hn : numsOf (intItems xs).toList = ns := by rw [← e]; exact hi.numsOf
  rw [nums_intItems] at hn
  rw [e] at hl
  refine PySem.sum_intTuple hh hl fun h' tk t' hk => ?_
  have := h h' tk t' hk
  rw [preSum_eq, List.take_of_length_le (by simp), hn]; exact this
theorem maxT_raw (hh : A.handled = none) (hl : s.heap.IsTuple l its.toArray) (hi : IntsAre its ns) (hne : 0 < ns.length)
    (h : ∀ h' tk M t', (∀ b o, s.heap.get? b = some o → h'.get? b = some o) → M ∈ ns → (∀ a, a ∈ ns → a ≤ M) → Q (.int M t') { s with heap := h', toks := tk }) : wpAny (model prog w) A (call (.builtin "max") [.ref l]) Q E s := by
  obtain ⟨xs, e⟩ := hi.allInts.items
  have hn : numsOf (intItems xs).toList = ns := by rw [← e]; exact hi.numsOf
  rw [nums_intItems] at hn
  subst hn
  rw [e] at hl
  have hsz : 0 < xs.size := by simpa using hne
  refine PySem.max_intTuple hh hl hsz fun v h' tk hv hk => ?_
  obtain ⟨t, rfl⟩ := intItems_at hv
  obtain ⟨h1, h2⟩ := argBest_gt (numAt xs) (xs.size - 1)
  refine h h' tk _ t hk ?_ fun a ha => ?_
  · rw [numAt_eq]; exact PySem.getD_mem (by rw [List.length_map, Array.length_toList]; omega)
  · obtain ⟨j, hj, rfl⟩ := mem_getD ha
    rw [List.length_map, Array.length_toList] at hj
    rw [← numAt_eq]; exact h2 j (by omega)
end
section
variable {X : Cx}
def rSumT (K : PySem.W.Frag) : List V → Hp → VK → Prop := fun vs H Q => ∃ (a : Addr) (ns : List Int), vs = [V.ref a] ∧ SqT K H a (ns.map V.int) ∧ Q (.int ns.sum) H
def rMaxT (K : PySem.W.Frag) : List V → Hp → VK → Prop := fun vs H Q => ∃ (a : Addr) (ns : List Int), vs = [V.ref a] ∧ SqT K H a (ns.map V.int) ∧ 0 < ns.length ∧ ∀ m, m ∈ ns → (∀ y, y ∈ ns → y ≤ m) → Q (.int m) H
theorem cr_sumT (hc : X.calm = true) : CallR X (.builtin "sum") (rSumT X.K) := by
  intro pins s σ H vs us Q I r h
  obtain ⟨a, ns, rfl, hs, q⟩ := h
  obtain ⟨its, rv, hl, _⟩ := I.tuple hs
  rw [Vals.ref1 r]
  exact sumT_raw (I.ok.hd hc) hl rv.ints fun h' tk t' hk => ⟨.int _, H, I.kept hk, ⟨_, rfl⟩, q⟩
theorem cr_maxT (hc : X.calm = true) : CallR X (.builtin "max") (rMaxT X.K) := by
  intro pins s σ H vs us Q I r h
  obtain ⟨a, ns, rfl, hs, hne, q⟩ := h
  obtain ⟨its, rv, hl, _⟩ := I.tuple hs
  rw [Vals.ref1 r]
  exact maxT_raw (I.ok.hd hc) hl rv.ints hne fun h' tk m t' hk h1 h2 => ⟨.int _, H, I.kept hk, ⟨_, rfl⟩, q m h1 h2⟩
/-- t.index(k), k in the tuple of ints t -/
theorem mt_tindexI : MtR X "tuple.index" (fun x xs H Q => ∃ (p : Addr) (ns : List Int) (k : Int), x = .ref p ∧ xs = [.int k] ∧ SqT X.K H p (ns.map V.int) ∧ k ∈ ns ∧ Q (.int (ns.idxOf k : Nat)) H) := by
  intro pins s σ H x xs v us Q I rx rs h
  obtain ⟨p, ns, k, rfl, rfl, hq, hk, q⟩ := h
  cases rx
  obtain ⟨u, rfl, t, rfl⟩ := vals1 rs
  obtain ⟨its, r, pl, hz⟩ := I.tuple hq
  exact SeqAt.tuple_index_ints pl r.ints hk ⟨.int _, H, I.tok _, ⟨_, rfl⟩, q⟩
theorem countP_ints (k : Int) : ∀ {ns : List Int} {us : List Value}, Vals (ns.map V.int) us → us.countP (eqU (.int k)) = ns.count k
  | [], us, h => by
    rw [List.map_nil] at h
    cases h
    rfl
  | n :: ns, us, h => by
    rw [List.map_cons] at h
    cases h with
    | cons r t =>
      obtain ⟨tk, rfl⟩ := r
      rw [List.countP_cons, List.count_cons, countP_ints k t]
      rfl
theorem flat_ints (ns : List Int) : (ns.map V.int).all flatV = true := by
  rw [List.all_map]
  exact List.all_eq_true.mpr fun _ _ => rfl
/-- t.count(k), t a tuple of ints -/
theorem mt_tcountI : MtR X "tuple.count" (fun x xs H Q => ∃ (p : Addr) (ns : List Int) (k : Int), x = .ref p ∧ xs = [.int k] ∧ SqT X.K H p (ns.map V.int) ∧ Q (.int (ns.count k : Nat)) H) := by
  intro pins s σ H x xs v us Q I rx rs h
  obtain ⟨p, ns, k, rfl, rfl, hq, q⟩ := h
  cases rx
  obtain ⟨u, rfl, t, rfl⟩ := vals1 rs
  obtain ⟨its, r, pl, hz⟩ := I.tuple hq
  obtain ⟨⟨cls, dd, dt, sl⟩, ho, hc, n, hd⟩ := pl
  simp only at hc hd
  subst hc
  subst hd
  refine call_meets PySem.F.slot_tuple_count ⟨_, ho, rfl⟩ PySem.F.entry_tuple_count (PySem.F.args_tuple_count_2 _ _) (PySem.SeqAt.tuple_countAt p its.toArray n dd sl (.int k t) (eqU (.int k)))
    ⟨ho, fun w hw => mem_eqAt (x := .int k) ⟨t, rfl⟩ rfl r (flat_ints ns) w (by simpa using hw), ⟨.int (ns.count k : Nat), H, I.tok _, ?_, q⟩⟩
  refine ⟨s.toks, ?_⟩
  show Value.int _ _ = Value.int _ _
  rw [show its.toArray.toList = its from rfl, countP_ints k r]
/-- range(n) as a value -/
theorem cr_range1V : CallR X (.type "range") (fun vs H Q => ∃ j, vs = [V.int j] ∧ ∀ p, H p = none → Q (.ref p) (upd H p (.rng 0 j))) := by
  intro pins s σ H vs us Q I r h
  obtain ⟨j, rfl, q⟩ := h
  obtain ⟨u1, rfl, t, rfl⟩ := vals1 r
  refine call_range_1 ⟨.ref s.heap.objs.size, upd H s.heap.objs.size (.rng 0 j), I.laid (t' := s.toks + 1 + 1) (fun b o e => Heap.get?_push_of_some _ e) (Nat.le_refl _) ?_, rfl, q _ (I.hok.fresh (Nat.le_refl _))⟩
  exact ⟨s.toks, t, s.toks + 1, Heap.get?_push_size _ rfl⟩
end
section
variable {X : Cx} {tg : Expr}
/-- for i in r, r a range object -/
def iRngV (te : TE) : TI := fun σ H R => te σ H fun x H1 => ∃ (a : Addr) (lo hi : Int), x = .ref a ∧ H1 a = some (.rng lo hi) ∧ (-(2 ^ 62) ≤ lo ∧ lo < 2 ^ 62 ∧ -(2 ^ 62) ≤ hi ∧ hi < 2 ^ 62) ∧ R (Itr lo (hi - lo).toNat) H1
theorem pi_rngV {e : Expr} {te : TE} (he : PE X e te) : PI X tg e (iRngV te) := by
  refine ⟨fun pins s σ H R I h => ?_⟩
  refine thn (he.run pins s σ H _ I h) fun v s1 ⟨x, H1, I1, r1, q1⟩ => ?_
  obtain ⟨a, lo, hi, rfl, ha, ⟨h1, h2, h3, h4⟩, q⟩ := q1
  cases r1
  obtain ⟨t, u, v, eo⟩ := (show ObjOk X.prog X.w H1 s1.heap a (.rng lo hi) from I1.hok a _ ha)
  refine wpAny_pyIter_range (a := lo) (b := hi) (c := 1) (t := t) (u := u) (v := v) eo (small_one h1 h2 h3 h4) ?_
  refine ⟨s1.heap.objs.size, [s1.heap.objs.size], _, _, H1, rfl, I1.kept (t' := s1.toks) fun b o e => Heap.get?_push_of_some _ e, turn_range _ lo (hi - lo).toNat, ?_, fun b hb => ?_, q⟩
  · have e1 : lo + ((0 : Nat) : Int) * 1 = lo := by simp
    have e2 : (((hi - lo).toNat : Nat) : Int) - ((0 : Nat) : Int) = Builtin.Range.rangeSize lo hi 1 := by rw [rangeSize_one]; split <;> omega
    show IsRangeIter _ _ (lo + ((0 : Nat) : Int) * 1) ((((hi - lo).toNat : Nat) : Int) - ((0 : Nat) : Int)) 1
    rw [e1, e2]
    exact Heap.get?_push_size _ rfl
  · have e : b = s1.heap.objs.size := by simpa using hb
    subst e
    exact I1.fpOk (Nat.le_refl _) (I1.hok.fresh (Nat.le_refl _))
end
end L2

set_option Elab.async false
set_option linter.all false
set_option maxRecDepth 100000
set_option maxHeartbeats 4000000
/-! two dicts with tuple keys that hold the same, compared by ==: True -/
namespace PySem.W
open PySem PySem.Calls PyProof.Rows
section
variable {prog : Program} {w : World} {K : Type} [DecidableEq K] {knd : HeapKind prog w K} {A : Around} {E : Value → Shared → Prop} {s : Shared}
/-- every entry of the one is found in the other, with an equal value -/
def FoundIn (A : Around) (s : Shared) (ys : List (K × Addr × Value)) (x : K × Addr × Value) : Prop := ∃ (j : Nat) (p : Addr × Value), ys[j]? = some (x.1, p) ∧ SeqAt.EqAt A s x.2.2 p.2 true
theorem nodup_place {ys : List (K × Addr × Value)} (hn : (ys.map (·.1)).Nodup) {i j : Nat} {k : K} {p q : Addr × Value} (h1 : ys[i]? = some (k, p)) (h2 : ys[j]? = some (k, q)) : p = q := by
  have e1 := atKey_of_get hn h1
  have e2 := atKey_of_get hn h2
  exact Option.some.inj (e1.symm.trans e2)
theorem samePairs_tupled {nm : String} {a b : Addr} {xs ys : List (K × Addr × Value)} {Q : Bool → Shared → Prop} (hr : knd.room A) (ha : (a == sysModules) = false) (hb : (b == sysModules) = false)
    (da : s.heap.DictOfH knd a xs) (db : s.heap.DictOfH knd b ys) (hl : xs.length = ys.length) (all : ∀ x ∈ xs, FoundIn A s ys x) (h : Q true s) : wpAny (model prog w) A (Builtin.Dict.samePairs nm a b) Q E s := by
  obtain ⟨oa, ea, pa, ga, _, ta, la, ka, na⟩ := da
  obtain ⟨ob, eb, pb, gb, _, tb, lb, kb, nb⟩ := db
  have za : ea.size = xs.length := size_of_entries la
  have zb : eb.size = ys.length := size_of_entries lb
  unfold Builtin.Dict.samePairs Builtin.Dict.showsAll
  rw [if_neg (by rw [ha]; exact Bool.false_ne_true), if_neg (by rw [hb]; exact Bool.false_ne_true)]
  refine wpAny_bind (wpAny_pure (wpAny_bind (wpAny_pure (wpAny_bind (wpAny_dictEntries ga ta ?_)))))
  dsimp only
  refine wpAny_bind (wpAny_dictEntries gb tb ?_)
  rw [if_neg (by rw [za, zb, hl]; simp)]
  refine wpAny_bind (wpAny_dictEpoch ga ta (wpAny_bind ?_))
  rw [Std.Legacy.Range.forIn_eq_forIn_range']
  simp only [Std.Legacy.Range.size, Nat.sub_zero, Nat.add_sub_cancel, Nat.div_one]
  refine wpAny_forIn_list _ (fun left q s' => s' = s ∧ q = (none, ()) ∧ ∃ i, left = List.range' i (xs.length - i) ∧ i ≤ xs.length) _ ?_ ?_ _ _ ⟨rfl, rfl, 0, by rw [za, Nat.sub_zero], Nat.zero_le _⟩
  · rintro c left q s' ⟨rfl, rfl, i, hc, hi⟩
    have lt : i < xs.length := by
      rcases Nat.lt_or_ge i xs.length with z | z
      · exact z
      · rw [show xs.length - i = 0 by omega] at hc
        cases hc
    rw [show xs.length - i = (xs.length - (i + 1)) + 1 by omega, List.range'_succ] at hc
    injection hc with c1 c2
    subst c1
    refine wpAny_bind (wpAny_dictEntries ga ta ?_)
    have eat : ea[c]? = some (entryOfKey knd xs[c]) := by rw [entry_at la c, List.getElem?_eq_getElem lt]; rfl
    rw [eat]
    show wpAny _ _ (holding [(entryOfKey knd xs[c]).key, (entryOfKey knd xs[c]).val] _ >>= _) _ _ _
    obtain ⟨j0, p0, hj0, eqv⟩ := all xs[c] (List.getElem_mem lt)
    refine wpAny_bind (wpAny_holding (wpAny_bind ?_))
    show wpAny _ _ (dictFind b (Value.ref xs[c].2.1) (knd.hash xs[c].1)) _ _ _
    refine wpAny_dictFind_heap hr (ka _ (List.getElem_mem lt)) gb tb lb kb nb (fun no => absurd hj0 (no j0 p0)) fun j p hj => ?_
    have ep := nodup_place nb hj hj0
    subst ep
    refine wpAny_bind (wpAny_dictEntries gb tb ?_)
    have ebt : eb[j]? = some (entryOfKey knd (xs[c].1, p)) := by rw [entry_at lb j, hj]; rfl
    rw [ebt]
    refine wpAny_holding (eqv prog w _ _ ?_)
    show wpAny _ _ (if (!true) = true then _ else _) _ _ _
    rw [if_neg (by decide)]
    refine wpAny_bind (wpAny_dictEpoch ga ta ?_)
    rw [if_neg (by simp)]
    exact wpAny_pure ⟨rfl, rfl, c + 1, c2, lt⟩
  · rintro q s' ⟨rfl, rfl, _⟩
    exact wpAny_pure h
theorem dicts_tupled_eq {a b : Addr} {xs ys : List (K × Addr × Value)} {Q : Value → Shared → Prop} (hr : knd.room A.in1) (ha : (a == sysModules) = false) (hb : (b == sysModules) = false) (hu : A.units < cLine)
    (da : s.heap.DictOfH knd a xs) (db : s.heap.DictOfH knd b ys) (hl : xs.length = ys.length) (all : ∀ x ∈ xs, FoundIn A.in1 s ys x) (h : Q (.bool true) s) : wpAny (model prog w) A (compareOp .Eq (.ref a) (.ref b)) Q E s := by
  refine wpAny_richCompare_same_room (op := .Eq) da.typeIs db.typeIs PySem.F.slot_dict_eq (wpAny_call_entry PySem.F.slot_dict_eq da.typeIs PySem.F.entry_dict_eq ?_ (PySem.F.args_dict_eq_2 _ _)) hu
  show wpAny _ _ (Builtin.Dict.dictSlotArgs "__eq__" ⟨[.ref a, .ref b], []⟩ >>= _) _ _ s
  refine wpAny_bind ?_
  unfold Builtin.Dict.dictSlotArgs
  refine wpAny_bind (wpAny_notOrdered_dict da.typeIs ?_)
  show wpAny _ _ (pure (Value.ref a, Value.ref b)) _ _ s
  refine wpAny_pure (wpAny_bind (wpAny_isInstance (T := "dict") db.typeIs PySem.F.sub_dict_dict ?_))
  simp only [Bool.not_true, Bool.false_eq_true, if_false]
  refine wpAny_bind (wpAny_pure (wpAny_bind (wpAny_pure (wpAny_bind (samePairs_tupled hr ha hb da db hl all ?_)))))
  exact wpAny_pure ⟨_, rfl, (fun x => nomatch x), h⟩
end
end PySem.W
namespace L2
open PySem PySem.Spec PyProof.Rows
section
variable {X : Cx}
/-- a == b, two dicts with tuple keys that hold the same values (flat ones) at the same keys -/
def rEqDT : R2 := fun x y H Q => ∃ a b ks ls, x = .ref a ∧ y = .ref b ∧ H a = some (.dT ks) ∧ H b = some (.dT ls) ∧ ks.length = ls.length ∧ (∀ p ∈ ks, valV ls p.1 = some p.2 ∧ flatB p.2 = true) ∧ Q (.bl true) H
theorem KT.mem {H : Hp} {kvs : List (List Key × V)} {xs : List (List Key × Addr × Value)} (r : KT H kvs xs) : ∀ x ∈ xs, ∃ p ∈ kvs, p.1 = x.1 ∧ RelV p.2 x.2.2 := by
  induction r with
  | nil => intro x hx; cases hx
  | @cons p q ps qs h t ih =>
    intro x hx
    rcases List.mem_cons.mp hx with rfl | hx
    · exact ⟨p, List.mem_cons_self, h.1, h.2.2⟩
    · obtain ⟨p', m, e⟩ := ih x hx
      exact ⟨p', List.mem_cons_of_mem _ m, e⟩
theorem atKey_place {K : Type} [DecidableEq K] {ys : List (K × Addr × Value)} {k : K} {p : Addr × Value} (h : atKey ys k = some p) : ∃ j : Nat, ys[j]? = some (k, p) := by
  unfold atKey at h
  obtain ⟨x, hx, e⟩ := Option.map_eq_some_iff.mp h
  have hk : x.1 = k := of_decide_eq_true (List.find?_some (p := fun x : K × Addr × Value => decide (x.1 = k)) hx)
  obtain ⟨j, hj⟩ := List.mem_iff_getElem?.mp (List.mem_of_find?_eq_some hx)
  refine ⟨j, ?_⟩
  rw [hj, ← hk, ← e]
theorem op_eq_dT (hu : X.A.units + 1 < cLine) : OpR X (compareOp .Eq) rEqDT := by
  intro pins s σ H x y v u Q I rx ry h
  obtain ⟨a, b, ks, ls, rfl, rfl, ea, eb, hl, hp, q⟩ := h
  obtain rfl : v = Value.ref a := rx
  obtain rfl : u = Value.ref b := ry
  obtain ⟨_, ya, xs, ra, da⟩ := dt_of I.hok ea
  obtain ⟨_, yb, ys, rb, db⟩ := dt_of I.hok eb
  refine PySem.W.dicts_tupled_eq (knd := tupleKind (mixKind X.prog X.w)) (tupleKind_room_in1 hu) ya yb (by omega) da db (by rw [← Paired.length ra, ← Paired.length rb]; exact hl) (fun z hz => ?_) ⟨.bl true, H, I, rfl, q⟩
  obtain ⟨p, hm, e1, r1⟩ := ra.mem z hz
  obtain ⟨e2, fl⟩ := hp p hm
  rw [e1] at e2
  obtain ⟨u2, hu2, r2⟩ := RelO.some_of (v := p.2) (o := (atKey ys z.1).map (·.2)) (by rw [← e2]; exact rb.val z.1)
  obtain ⟨w2, hw2, e3⟩ := Option.map_eq_some_iff.mp hu2
  obtain ⟨j, hj⟩ := atKey_place hw2
  refine ⟨j, w2, hj, eqAt_same r1 ?_ fl⟩
  rw [e3]
  exact r2
end
end L2

set_option Elab.async false
set_option linter.all false
set_option maxRecDepth 100000
set_option maxHeartbeats 4000000
/-! {k: v for a in xs for b in ys}: a dict comprehension of two clauses without tests -/
namespace L2
open PySem PySem.Spec PyProof.Rows
abbrev dc2 (kx vx t0 i0 t1 i1 : Expr) (sc : Scope) (pos : Pos) : Expr := .DictComp kx vx [⟨t0, i0, [], 0⟩, ⟨t1, i1, [], 0⟩] sc pos
theorem dc2_outer (kx vx t0 i0 t1 i1 : Expr) (sc : Scope) (pos : Pos) (it : Value) (D : Addr) (env : Env) :
    compTurn (dc2 kx vx t0 i0 t1 i1 sc pos) 0 it (.ref D) env = (do
      standAt i0.pos
      match ← pyNext it with
      | none => pure (.done .next)
      | some v =>
        letOwnedTupleGo t0 it v
        assign t0 env v
        let x ← eval i1 env
        standAt i1.pos
        let y ← foldedSetIterable i1 env x
        let _ ← runOwn (.compStart (dc2 kx vx t0 i0 t1 i1 sc pos) 1 (← holding [y] (pyIter y)) (.ref D) env) env
        again (.compLoop (dc2 kx vx t0 i0 t1 i1 sc pos) 0 it (.ref D) env)) := by rfl
theorem dc2_inner (kx vx t0 i0 t1 i1 : Expr) (sc : Scope) (pos : Pos) (it : Value) (D : Addr) (env : Env) :
    compTurn (dc2 kx vx t0 i0 t1 i1 sc pos) 1 it (.ref D) env = (do
      standAt i1.pos
      match ← pyNext it with
      | none => pure (.done .next)
      | some v =>
        letOwnedTupleGo t1 it v
        assign t1 env v
        (do
          let kv ← eval kx env
          let vv ← holding [kv] (eval vx env)
          standAt { kx.pos with endLine := vx.pos.endLine, endCol := vx.pos.endCol }
          holding [kv, vv] (dictSet D kv vv))
        again (.compLoop (dc2 kx vx t0 i0 t1 i1 sc pos) 1 it (.ref D) env)) := by rfl
section
variable {prog : Program} {w : World} {A : Around} {R : Result → Shared → Prop} {s : Shared} {kx vx t0 i0 t1 i1 : Expr} {sc : Scope} {pos : Pos} {it : Value} {D : Addr} {env : Env}
/-- what a raise in the block does -/
abbrev dcErr (prog : Program) (w : World) (A : Around) (env : Env) (R : Result → Shared → Prop) : Value → Shared → Prop := notedBy (model prog w) A env fun e s' => R (.error e) s'
theorem dc2_loop0 (hs : ∀ x, foldedSetIterable i1 env x = pure x) (J : Nat → Shared → Prop)
    (turn : ∀ n s, J n s → wpAny (model prog w) A (pyNext it) (fun r s₁ => match r with
      | none => R (.ok .next) s₁
      | some v => wpAny (model prog w) A (letOwnedTupleGo t0 it v) (fun _ s₂ => wpAny (model prog w) A (assign t0 env v) (fun _ s₃ => wpAny (model prog w) A (eval i1 env) (fun x s₄ => wpAny (model prog w) A (pyIter x) (fun it1 s₅ =>
          codeAny (model prog w) A (.compStart (dc2 kx vx t0 i0 t1 i1 sc pos) 1 it1 (.ref D) env) (fun r s' => match r with
            | .ok _ => ∃ m, m < n ∧ J m s'
            | .error _ => False) s₅) (dcErr prog w A env R) s₄) (dcErr prog w A env R) s₃) (dcErr prog w A env R) s₂) (dcErr prog w A env R) s₁) (dcErr prog w A env R) s)
    (n : Nat) (h : J n s) : codeAny (model prog w) A (.compLoop (dc2 kx vx t0 i0 t1 i1 sc pos) 0 it (.ref D) env) R s := by
  refine codeAny_loop rfl J (fun n s hJ => ?_) n h
  show wpAny _ A ((compTurn (dc2 kx vx t0 i0 t1 i1 sc pos) 0 it (.ref D) env).onRaise (fun x => do noteFrame x env; theTreesLotGoes x)) _ _ s
  refine wpAny_noted ?_
  rw [dc2_outer]
  refine wpAny_bind (wpAny_standAt (wpAny_bind (thn (turn n s hJ) fun r s₁ h₁ => ?_)))
  cases r with
  | none => exact wpAny_pure h₁
  | some v =>
    refine wpAny_bind (thn h₁ fun _ s₂ h₂ => wpAny_bind (thn h₂ fun _ s₃ h₃ => wpAny_bind (thn h₃ fun x s₄ h₄ => ?_)))
    refine wpAny_bind (wpAny_standAt (wpAny_bind (wpAny_of_eq (hs x) (wpAny_bind (wpAny_holding (thn h₄ fun it1 s₅ h₅ => ?_))))))
    refine wpAny_bind (wpAny_runOwn ?_)
    rw [Around.mark_none]
    refine codeAny_mono h₅ fun r s' hr => ?_
    cases r with
    | ok f =>
      first
        | exact wpAny_pure ⟨rfl, hr⟩
        | exact wpAny_bind (wpAny_pure (wpAny_pure ⟨rfl, hr⟩))
    | error e => exact hr.elim
theorem dc2_loop1 (J : Nat → Shared → Prop)
    (turn : ∀ n s, J n s → wpAny (model prog w) A (pyNext it) (fun r s₁ => match r with
      | none => R (.ok .next) s₁
      | some v => wpAny (model prog w) A (letOwnedTupleGo t1 it v) (fun _ s₂ => wpAny (model prog w) A (assign t1 env v) (fun _ s₃ => wpAny (model prog w) A (eval kx env) (fun kv s₄ => wpAny (model prog w) A (eval vx env) (fun vv s₅ =>
          wpAny (model prog w) A (dictSet D kv vv) (fun _ s₆ => ∃ m, m < n ∧ J m s₆) (dcErr prog w A env R) s₅) (dcErr prog w A env R) s₄) (dcErr prog w A env R) s₃) (dcErr prog w A env R) s₂) (dcErr prog w A env R) s₁) (dcErr prog w A env R) s)
    (n : Nat) (h : J n s) : codeAny (model prog w) A (.compLoop (dc2 kx vx t0 i0 t1 i1 sc pos) 1 it (.ref D) env) R s := by
  refine codeAny_loop rfl J (fun n s hJ => ?_) n h
  show wpAny _ A ((compTurn (dc2 kx vx t0 i0 t1 i1 sc pos) 1 it (.ref D) env).onRaise (fun x => do noteFrame x env; theTreesLotGoes x)) _ _ s
  refine wpAny_noted ?_
  rw [dc2_inner]
  refine wpAny_bind (wpAny_standAt (wpAny_bind (thn (turn n s hJ) fun r s₁ h₁ => ?_)))
  cases r with
  | none => exact wpAny_pure h₁
  | some v =>
    refine wpAny_bind (thn h₁ fun _ s₂ h₂ => wpAny_bind (thn h₂ fun _ s₃ h₃ => wpAny_bind (wpAny_bind (thn h₃ fun kv s₄ h₄ => ?_))))
    exact wpAny_bind (wpAny_holding (thn h₄ fun vv s₅ h₅ => wpAny_bind (wpAny_standAt (wpAny_holding (thn h₅ fun _ s₆ h₆ => wpAny_pure ⟨rfl, h₆⟩)))))
theorem dc2_begin1 (h0 : codeAny (model prog w) A (.compLoop (dc2 kx vx t0 i0 t1 i1 sc pos) 1 it (.ref D) env) R s)
    (h : wpAny (model prog w) A (pyIter it) (fun it' s' => codeAny (model prog w) A (.compLoop (dc2 kx vx t0 i0 t1 i1 sc pos) 1 it' (.ref D) env) R s') (dcErr prog w A env R) s) :
    codeAny (model prog w) A (.compStart (dc2 kx vx t0 i0 t1 i1 sc pos) 1 it (.ref D) env) R s := by
  refine codeAny_of_tree ?_
  show wpAny _ _ ((compStart (dc2 kx vx t0 i0 t1 i1 sc pos) 1 it (.ref D) env).onRaise (fun x => do noteFrame x env; standAt theWindowsPlace)) _ _ s
  refine wpAny_notedAt ?_
  unfold compStart
  show wpAny _ _ (ask >>= _) _ _ s
  refine wpAny_bind (wpAny_askSetting (wpAny_ite ?_))
  split
  · first
      | exact wpAny_bind (wpAny_pure (wpAny_pure ⟨rfl, h0⟩))
      | exact wpAny_pure ⟨rfl, h0⟩
  · first
      | exact wpAny_bind (wpAny_rule (wpAny_bind (wpAny_standAt (wpAny_bind (thn h fun it' s' h' => wpAny_pure ⟨rfl, h'⟩)))))
      | (refine wpAny_bind (wpAny_rule ?_); show wpAny _ _ (standAt i1.pos >>= _) _ _ s; exact wpAny_bind (wpAny_standAt (wpAny_bind (thn h fun it' s' h' => wpAny_pure ⟨rfl, h'⟩))))
end
section
variable {X : Cx}
/-- the reading: vs the block's slots, vs1 those of the second target -/
def tDc2 (wi : TI) (g : TG) (wi1 : TI) (g1 : TG) (tk tv : TE) (vs vs1 : List Nat) : TE := fun σ H Q => wi σ H fun J H1 => ∀ D, H1 D = none → ∃ W : Nat → Nat → Hp → Prop, (∃ m, W 0 m (upd H1 D (.dK []))) ∧ ∀ i m H, W i m H →
  (J.stop i H ∧ Q (.ref D) H) ∨ (J.go i H ∧ ∃ Nx : Hp → Prop, (∀ H', Nx H' → ∃ m', m' < m ∧ W (i + 1) m' H') ∧ ∀ x H', J.yld i H x H' → g x (wipe σ vs) H' fun σ2 H2 => wipe σ2 vs = wipe σ vs ∧
    wi1 σ2 H2 fun J1 H4 => ∃ W1 : Nat → Nat → Hp → Prop, (∃ m, W1 0 m H4) ∧ ∀ j k H, W1 j k H →
      (J1.stop j H ∧ Nx H) ∨ (J1.go j H ∧ ∃ Nx1 : Hp → Prop, (∀ H', Nx1 H' → ∃ k', k' < k ∧ W1 (j + 1) k' H') ∧ ∀ x H', J1.yld j H x H' → g1 x (wipe σ2 vs1) H' fun σ3 H5 => wipe σ3 vs1 = wipe σ2 vs1 ∧
        tk σ3 H5 fun y H6 => tv σ3 H6 fun z H7 => ∃ kvs k, y = kV k ∧ H7 D = some (.dK kvs) ∧ kvs.length < sizeLine ∧ Nx1 (upd H7 D (.dK (putK kvs k z)))))
/-- what stands for every state of the block -/
abbrev InBlk (X : Cx) (sc : Scope) (e : (Y : Cx) → Prop) : Prop := ∀ (s : Shared) (H : Hp) (C : Addr) (cl : List (Str × Addr)) (fp : List Addr), e (X.blk s H sc (compEnvC sc cl C X.env) fp)
theorem dc2_run {pins : List (Addr × Obj)} {s : Shared} {σ : St} {H : Hp} {Q : VK} {kx vx tg iter tg1 iter1 : Expr} {sc : Scope} {own : List (Str × Nat)} {vs1 : List Nat} {pos pos' : Pos} {wi wi1 : TI} {g g1 : TG} {tk tv : TE} {use : Option (Value → Sem Unit)} {Qf : Value → Shared → Prop}
    (hc : X.calm = true) (hN : X.N.Nodup) (I : Inv X pins σ H s) (hi : PI X tg iter wi) (ok : BlkOk X.N X.env.scope sc own) (hv : ∀ i ∈ vs1, i ∈ own.map (·.2)) (hg : InBlk X sc fun Y => PG Y tg g) (hi1 : InBlk X sc fun Y => PI Y tg1 iter1 wi1) (hg1 : InBlk X sc fun Y => PG Y tg1 g1)
    (hk : InBlk X sc fun Y => PE Y kx tk) (he : InBlk X sc fun Y => PE Y vx tv) (hs : ∀ x, foldedSetIterable iter X.env x = pure x) (hs1 : ∀ env x, foldedSetIterable iter1 env x = pure x) (h : tDc2 wi g wi1 g1 tk tv (own.map (·.2)) vs1 σ H Q)
    (fin : ∀ D C s' m H', Inv X pins σ H' s' → Q (.ref D) H' → s'.heap.Ns C m → FpOk X pins H' C → compPost (model X.prog X.w) X.A X.xe use Qf (.ref D) C (.ok .next) s') :
    wpAny (model X.prog X.w) X.A (comprehension (dc2 kx vx tg iter tg1 iter1 sc pos) sc X.env pos' newDict false (eval iter X.env) use) Qf X.xe s := by
  have cells : ∀ y ∈ sc.names, y.2 = .free → ∃ c, X.env.cells.lookup y.1 = some c := fun y hy e => (ok.free y hy e).elim (fun z => I.ok.has _ (.inl z)) fun z => I.ok.has _ (.inr z)
  refine wpAny_comprehension_free (use := use) rfl hs (closure_ok cells) ok.kind (fun y hy e => by rw [ok.uniq y hy, e]) (thn (hi.run pins s σ H _ I h) fun xv s1 hx => thn hx fun itv s2 h2 => ?_)
  obtain ⟨it, fp, tn, J, H2, e, I2, T, st2, f2, q⟩ := h2
  subst e
  refine wpAny_newObj_type (newEnv_comp ?_)
  obtain ⟨D, hD⟩ : ∃ D, s2.heap.objs.size = D := ⟨_, rfl⟩
  rw [hD]
  obtain ⟨W, ⟨m0, w0⟩, turn⟩ := q D (I2.hok.fresh (Nat.le_of_eq hD))
  -- the new dict
  obtain ⟨s3, hs3⟩ : ∃ s3 : Shared, s3 = { s2 with heap := s2.heap.push { cls := .type "dict", data := .dict #[] } } := ⟨_, rfl⟩
  have h3 : s3.heap = s2.heap.push { cls := .type "dict", data := .dict #[] } := by rw [hs3]
  have I3 : Inv X pins σ (upd H2 D (.dK [])) s3 := by
    rw [hs3]
    refine I2.laid (t' := s2.toks) (fun b o e => Heap.get?_push_of_some _ e) (Nat.le_of_eq hD) ?_
    rw [← hD]
    exact dk_empty s2.heap I2.big
  have f3 : ∀ b ∈ fp, FpOk X pins (upd H2 D (.dK [])) b ∧ b < s3.heap.objs.size := fun b hb => by
    obtain ⟨o, eo, _⟩ := T.obj _ _ st2 b hb
    have lt := Heap.lt_size eo
    refine ⟨⟨?_, (f2 b hb).2⟩, by rw [h3, Heap.size_push]; exact Nat.lt_succ_of_lt lt⟩
    rw [upd_ne (by rw [← hD]; exact Nat.ne_of_lt lt)]
    exact (f2 b hb).1
  have st3 : tn 0 s3.heap := T.keep _ _ _ st2 fun b _ o e => by rw [h3]; exact Heap.get?_push_of_some _ e
  rw [← hs3]
  have I4 := block_start I3 ok hN f3
  have pg := hg s3 (upd H2 D (.dK [])) s3.heap.objs.size (cellsFrom (s3.heap.objs.size + 1) sc.names (cloFrom X.env.cells sc.names [])) fp
  have pi1 := hi1 s3 (upd H2 D (.dK [])) s3.heap.objs.size (cellsFrom (s3.heap.objs.size + 1) sc.names (cloFrom X.env.cells sc.names [])) fp
  have pg1 := hg1 s3 (upd H2 D (.dK [])) s3.heap.objs.size (cellsFrom (s3.heap.objs.size + 1) sc.names (cloFrom X.env.cells sc.names [])) fp
  have pk := hk s3 (upd H2 D (.dK [])) s3.heap.objs.size (cellsFrom (s3.heap.objs.size + 1) sc.names (cloFrom X.env.cells sc.names [])) fp
  have pe := he s3 (upd H2 D (.dK [])) s3.heap.objs.size (cellsFrom (s3.heap.objs.size + 1) sc.names (cloFrom X.env.cells sc.names [])) fp
  show codeAny _ _ (.compStart (dc2 kx vx tg iter tg1 iter1 sc pos) 0 (.ref it) (.ref D) (compEnvC sc (cellsFrom (s3.heap.objs.size + 1) sc.names (cloFrom X.env.cells sc.names [])) s3.heap.objs.size X.env)) (compPost (model X.prog X.w) X.A X.xe use Qf (.ref D) s3.heap.objs.size) { s3 with heap := pushCells (s3.heap.push { cls := .type "dict", data := .dict #[] }) sc.names }
  have nfp : ∀ b ∈ fp, (upd H2 D (.dK [])) b = none := fun b hb => (f3 b hb).1.1
  generalize hce : compEnvC sc (cellsFrom (s3.heap.objs.size + 1) sc.names (cloFrom X.env.cells sc.names [])) s3.heap.objs.size X.env = ce at I4 pg pk pe pi1 pg1 ⊢
  have cL : ce.locals = s3.heap.objs.size := by subst hce; rfl
  generalize hH3 : upd H2 D (.dK []) = H3 at I3 I4 pg pk pe pi1 pg1 w0 nfp f3
  generalize hs4 : ({ s3 with heap := pushCells (s3.heap.push { cls := .type "dict", data := .dict #[] }) sc.names } : Shared) = s4 at I4 ⊢
  have st4 : tn 0 s4.heap := T.keep _ _ _ st3 fun b _ o e => by rw [← hs4]; exact pushCells_keeps _ _ _ _ (Heap.get?_push_of_some _ e)
  have own0 : ∀ {σ' : St} {H' : Hp} {s' : Shared}, Inv (X.blk s3 H3 sc ce fp) [] σ' H' s' → (∀ b ∈ fp, H' b = none) → ∀ b ∈ fp, FpOk (X.blk s3 H3 sc ce fp) [] H' b := fun {σ' H' s'} I' hn b hb =>
    ⟨hn b hb, (I'.ok.exf b hb).1, I'.ok.exfs b hb, .inl hb, fun x c e => (I'.ok.exf b hb).2 x c e, fun p hp => absurd (show p ∈ ([] : List (Addr × Obj)) ++ [] from hp) (by simp)⟩
  -- the state between two turns of the outer loop
  obtain ⟨Out, hOut⟩ : ∃ Out : Nat → Shared → Prop, Out = fun n s' => ∃ i H', Inv (X.blk s3 H3 sc ce fp) [] (wipe σ (own.map (·.2))) H' s' ∧ tn i s'.heap ∧ (∀ b ∈ fp, H' b = none) ∧ W i n H' := ⟨_, rfl⟩
  have loop : codeAny (model X.prog X.w) X.A (.compLoop (dc2 kx vx tg iter tg1 iter1 sc pos) 0 (.ref it) (.ref D) ce) (compPost (model X.prog X.w) X.A X.xe use Qf (.ref D) s3.heap.objs.size) s4 := by
    refine dc2_loop0 (hs1 ce) Out ?_ m0 (by rw [hOut]; exact ⟨0, H3, I4, st4, nfp, w0⟩)
    intro n s5 h5
    have h5' := h5
    rw [hOut] at h5'
    obtain ⟨i, H5, I5, st5, n5, w5⟩ := h5'
    rcases turn i n H5 w5 with ⟨stop, qq⟩ | ⟨go, Nx, hNx, step⟩
    · refine thnF (T.done (X.blk s3 H3 sc ce fp) rfl rfl rfl hc i [] s5 _ H5 (fun _ _ => False) I5 (own0 I5 n5) st5 stop) fun r s6 ⟨hr, I6⟩ => ?_
      subst hr
      have I7 : Inv X pins σ H5 s6 := I3.call' (ch := fp) I6.os I6.base I6.hok I6.bare fun b hb => ⟨(f3 b hb).1.2.2.2.1, (f3 b hb).1.2.1, (f3 b hb).1.2.2.2.2.1, (f3 b hb).1.2.2.2.2.2⟩
      have nC : H5 s3.heap.objs.size = none := by
        rw [← cL]
        exact I6.free
      obtain ⟨m, hn, _⟩ := I6.loc
      refine fin D s3.heap.objs.size s6 m H5 I7 qq ?_ (I3.fpOk (Nat.le_refl _) nC)
      rw [← cL]
      exact hn
    · refine thnF (T.item (X.blk s3 H3 sc ce fp) rfl rfl rfl hc i [] s5 _ H5 (fun _ _ => False) I5 (own0 I5 n5) st5 go) fun r s6 ⟨u, hr, h6⟩ => ?_
      subst hr
      refine thnF h6 fun _ s7 ⟨x, H7, I7, r7, y7, st7, n7⟩ => ?_
      have I7' := I7.pinned (own0 I7 n7) (T.obj _ _ st7)
      refine thnF (pg.run _ s7 _ H7 x u _ I7' r7 (step x H7 y7)) fun _ s8 ⟨σ8, H8, I8, hw8, q8⟩ => ?_
      have l8 : (wipe σ (own.map (·.2))).length = σ8.length := by rw [← hw8, wipe_length]
      refine thnF (pi1.run _ s8 σ8 H8 _ I8 q8) fun xv s10 hx => thnF hx fun itv s11 h11 => ?_
      obtain ⟨it1, fp1, tn1, J1, H11, e1, I11, T1, st11, f11, W1, ⟨m1, w1⟩, turn1⟩ := h11
      subst e1
      have own1 : ∀ {H' : Hp}, (∀ b ∈ fp1, H' b = none) → ∀ b ∈ fp1, FpOk (X.blk s3 H3 sc ce fp) ([] ++ pinsAt fp s7.heap) H' b := fun hn b hb => ⟨hn b hb, (f11 b hb).2⟩
      -- the inner loop
      have loop1 : codeAny (model X.prog X.w) X.A (.compLoop (dc2 kx vx tg iter tg1 iter1 sc pos) 1 (.ref it1) (.ref D) ce) (fun r s' => match r with
          | .ok _ => ∃ m, m < n ∧ Out m s'
          | .error _ => False) s11 := by
        refine dc2_loop1 (fun k s' => ∃ j H', Inv (X.blk s3 H3 sc ce fp) ([] ++ pinsAt fp s7.heap) (wipe σ8 vs1) H' s' ∧ tn1 j s'.heap ∧ (∀ b ∈ fp1, H' b = none) ∧ W1 j k H') ?_ m1 ⟨0, H11, I11.weak (wipe_length _ _) (fun j v e => (wipe_some e).1), st11, fun b hb => (f11 b hb).1, w1⟩
        rintro k s12 ⟨j, H12, I12, st12, n12, w12⟩
        rcases turn1 j k H12 w12 with ⟨stop1, nx⟩ | ⟨go1, Nx1, hNx1, step1⟩
        · refine thnF (T1.done (X.blk s3 H3 sc ce fp) rfl rfl rfl hc j _ s12 (wipe σ8 vs1) H12 (fun _ _ => False) I12 (own1 n12) st12 stop1) fun r s13 ⟨hr, I13⟩ => ?_
          subst hr
          -- the outer turn's end
          obtain ⟨m', hm, w'⟩ := hNx H12 nx
          have pin7 : ∀ b ∈ fp, ∀ o, s7.heap.get? b = some o → s13.heap.get? b = some o ∧ H12 b = none := fun b hb o e =>
            let z := I13.pin (b, o) (List.mem_append_right _ (List.mem_append_right _ (mem_pinsAt hb e)))
            ⟨z.1, z.2.1⟩
          show ∃ m, m < n ∧ Out m s13
          refine ⟨m', hm, ?_⟩
          rw [hOut]
          refine ⟨i + 1, H12, (I13.unpinned (pins := [])).weak (l8.trans (wipe_length σ8 vs1).symm) (fun j v e => ?_), T.keep _ _ _ st7 fun b hb o e => (pin7 b hb o e).1, fun b hb => ?_, w'⟩
          · rw [← hw8] at e
            obtain ⟨e1, e2⟩ := wipe_some e
            rw [wipe_out fun z => e2 (hv j z)]
            exact e1
          · obtain ⟨o, e, _⟩ := T.obj _ _ st7 b hb
            exact (pin7 b hb o e).2
        · refine thnF (T1.item (X.blk s3 H3 sc ce fp) rfl rfl rfl hc j _ s12 (wipe σ8 vs1) H12 (fun _ _ => False) I12 (own1 n12) st12 go1) fun r s13 ⟨u1, hr, h13⟩ => ?_
          subst hr
          refine thnF h13 fun _ s14 ⟨x1, H14, I14, r14, y14, st14, n14⟩ => ?_
          have I14' := I14.pinned (own1 n14) (T1.obj _ _ st14)
          refine thnF (pg1.run _ s14 (wipe σ8 vs1) H14 x1 u1 _ I14' r14 (step1 x1 H14 y14)) fun _ s15 ⟨σ15, H15, I15, hw15, q15⟩ => ?_
          refine thnF (pk.run _ s15 σ15 H15 _ I15 q15) fun kv s16 ⟨yk, H16, I16, r16, q16⟩ => ?_
          refine thnF (pe.run _ s16 σ15 H16 _ I16 q16) fun vv s17 ⟨yv, H17, I17, r17, kvs, ky, ek, hD17, hz17, nx⟩ => ?_
          subst ek
          refine d_dictSet (X := X.blk s3 H3 sc ce fp) I17 hD17 hz17 r16 r17 fun s18 I18 => ?_
          obtain ⟨k', hk', w'⟩ := hNx1 _ nx
          have pin14 : ∀ b ∈ fp1, ∀ o, s14.heap.get? b = some o → s18.heap.get? b = some o ∧ (upd H17 D (.dK (putK kvs ky yv))) b = none := fun b hb o e =>
            let z := I18.pin (b, o) (List.mem_append_right _ (List.mem_append_right _ (mem_pinsAt hb e)))
            ⟨z.1, z.2.1⟩
          refine ⟨k', hk', j + 1, _, I18.unpinned.weak (by rw [← hw15, wipe_length]) (fun j v e => by rw [← hw15] at e; exact (wipe_some e).1), T1.keep _ _ _ st14 fun b hb o e => (pin14 b hb o e).1, fun b hb => ?_, w'⟩
          obtain ⟨o, e, _⟩ := T1.obj _ _ st14 b hb
          exact (pin14 b hb o e).2
      exact dc2_begin1 loop1 (T1.self X.A 0 _ _ _ st11 loop1)
  exact codeAny_compStart_dict loop (T.self X.A 0 _ _ _ st4 loop)
theorem pe_dc2 {kx vx tg iter tg1 iter1 : Expr} {sc : Scope} {own : List (Str × Nat)} {vs1 : List Nat} {pos : Pos} {wi wi1 : TI} {g g1 : TG} {tk tv : TE} (hc : X.calm = true) (hN : X.N.Nodup) (hi : PI X tg iter wi) (ok : BlkOk X.N X.env.scope sc own) (hv : ∀ i ∈ vs1, i ∈ own.map (·.2))
    (hg : InBlk X sc fun Y => PG Y tg g) (hi1 : InBlk X sc fun Y => PI Y tg1 iter1 wi1) (hg1 : InBlk X sc fun Y => PG Y tg1 g1) (hk : InBlk X sc fun Y => PE Y kx tk) (he : InBlk X sc fun Y => PE Y vx tv)
    (hs : ∀ x, foldedSetIterable iter X.env x = pure x := by intro _; rfl) (hs1 : ∀ env x, foldedSetIterable iter1 env x = pure x := by intro _ _; rfl) :
    PE X (.DictComp kx vx [⟨tg, iter, [], 0⟩, ⟨tg1, iter1, [], 0⟩] sc pos) (tDc2 wi g wi1 g1 tk tv (own.map (·.2)) vs1) := by
  refine ⟨fun pins s σ H Q I h => ?_⟩
  rw [arm_eval_DictComp]
  refine dc2_run hc hN I hi ok hv hg hi1 hg1 hk he hs hs1 h fun D C s' m H' I' q hn f => ⟨m, hn, fun h'' sb => ?_⟩
  obtain ⟨f0, f1, f2, f3, f4, f5⟩ := f
  exact ⟨.ref D, H', I'.turned (t' := s'.toks) (fun b o hb e => (sb.2 b hb).trans e) f0 f1 f3 f4 f5, rfl, q⟩
end
end L2

set_option Elab.async false
set_option linter.all false
set_option maxRecDepth 100000
set_option maxHeartbeats 4000000
namespace K17
open PySem PySem.Spec PyProof.Rows L2
/-! ### the text, the module's names -/
def topS (i : Nat) : Stmt := PySem.Challenge.pw_schemebound_k17_whole_numbers.main.body.getD i (.Pass ⟨0, 0, 0, 0⟩)
/-- what the module's names stand for, besides its defs -/
structure Txt (K : PySem.W.Frag) (mg : Str → Option Value) : Prop where
  abs : mg "abs" = none
  int : mg "int" = none
  range : mg "range" = none
  len : mg "len" = none
  max : mg "max" = none
  min : mg "min" = none
  sum : mg "sum" = none
  all : mg "all" = none
  tuple : mg "tuple" = none
  list : mg "list" = none
  sorted : mg "sorted" = none
  zip : mg "zip" = none
  mostPoints : ∃ t, mg "MOST_POINTS" = some (.int (10 ^ 60) t)
  mostParts : ∃ t, mg "MOST_PARTS" = some (.int 8 t)
  mostKinds : ∃ t, mg "MOST_KINDS" = some (.int 60 t)
  mostListed : ∃ t, mg "MOST_LISTED" = some (.int 24 t)
  mostListedKinds : ∃ t, mg "MOST_LISTED_KINDS" = some (.int 8 t)
  mostLength : ∃ t, mg "MOST_LENGTH" = some (.int 40 t)
  mostFigures : ∃ t, mg "MOST_FIGURES" = some (.int 1000 t)
  mostMembers : ∃ t, mg "MOST_MEMBERS" = some (.int 80 t)
/-- a def of the module: its promise, at a level -/
def Has (P : Program) (w : World) (K : PySem.W.Frag) (mg : Str → Option Value) (base : Heap) (x : Str) (ps : List Str) (k : Nat) (sp : Sp) : Prop :=
  ∃ f fd, FnOk P w K mg base CX0 k f fd ps sp ∧ mg x = some (.ref f) ∧ PySem.W.keepIn K (.ref f) = true ∧ Binds K fd ps []
/-- as the head tells it -/
def Fn (K : PySem.W.Frag) (mg : Str → Option Value) (x : Str) (i : Nat) : Prop :=
  ∃ f fd, FunD K x x (defArgs (topS i)) (defBody (topS i)) (defScope (topS i)) [] [] f fd ∧ mg x = some (.ref f)
section
variable {P : Program} {w : World} {K : PySem.W.Frag} {mg : Str → Option Value} {base : Heap} {x : Str} {N ps : List Str} {i k j : Nat} {sp sp' : Sp}
theorem Has.mono (h : Has P w K mg base x ps k sp) (l : k ≤ j) : Has P w K mg base x ps j sp :=
  let ⟨f, fd, F, r⟩ := h
  ⟨f, fd, F.mono l, r⟩
theorem Has.imp (h : Has P w K mg base x ps k sp) (l : ∀ vs H Q E, sp' vs H Q E → sp vs H Q E) : Has P w K mg base x ps k sp' :=
  let ⟨f, fd, F, r⟩ := h
  ⟨f, fd, F.imp l, r⟩
/-- the context of the def's body -/
abbrev bodyX (P : Program) (w : World) (K : PySem.W.Frag) (mg : Str → Option Value) (base : Heap) (x : Str) (N : List Str) (i : Nat) (f : Addr) (cdv : Value) (A : Around) (outer : List Env) (s : Shared) (H : Hp) (E : XK) : Cx :=
  (cxOf CX0 P w K mg base N x (defScope (topS i)) f cdv A outer s H E).nox
/-- THE RULE for a def -/
theorem has_mk (F : Fn K mg x i) (S : FnScope N ps (defScope (topS i)))
    (hb : ∀ (kV doc pm : Value) (an : Option Addr) (cdv ct : Value) (us : List Value), us.length = ps.length → bindArgs (PySem.W.fnOf x x (defArgs (topS i)) (defBody (topS i)) (defScope (topS i)) .none kV doc pm an cdv ct) ⟨us, []⟩ = pure (ps.zip us))
    (len : ∀ vs H Q E, sp vs H Q E → vs.length = ps.length)
    (body : ∀ (f : Addr) (cdv : Value) (A : Around) (outer : List Env) (s : Shared) (H : Hp) (vs : List V) (Q : VK) (E : XK), Room k (A.deeper (envOfC x (defScope (topS i)) s.heap.objs.size f cdv)) → sp vs H Q E →
      ∃ t, PSs (bodyX P w K mg base x N i f cdv A outer s H E) (defBody (topS i)) t ∧ t { nx := fun _ H' => Q .non H', rt := Q } (start N vs) H) : Has P w K mg base x ps (k + 1) sp := by
  obtain ⟨f, fd, F, g⟩ := F
  refine ⟨f, fd, F.ok S len fun cdv A outer s H vs Q E hr h => ?_, g, F.kp, F.bindsN hb⟩
  obtain ⟨t, h1, h2⟩ := body f cdv A outer s H vs Q E hr h
  exact ⟨t, PSs.nox h1, h2⟩
end
/-- a call of such a def -/
theorem pe_h {X : Cx} {x : Str} {ps : List Str} {k : Nat} {sp : Sp} {p pos : Pos} {e : Expr} {es : List Expr} {t : TA} (C : Has X.prog X.w X.K X.mg X.base x ps k sp) (hr : Room k X.A) (hg : Gl X x) (ha : PA X (e :: es) t)
    (hdb : (x == ("__debug__" : Str)) = false := by decide) (he : starEach (e :: es) X.env = (false, eval e X.env) :: starEach es X.env := by rfl) (hpl : (backTo pos (starEach es X.env)).any (·.1) = false := by rfl) :
    PE X (.Call (.Name x p) (e :: es) [] pos) (tCall sp [] E0 t) := by
  obtain ⟨f, fd, F, g, kp, b⟩ := C
  exact pe_call F hr hg g kp b .nil pass0 ha hdb he hpl
/-- slots, ranges, lengths, in short -/
theorem pn {X : Cx} {x : Str} {v : V} {u : Value} {pos : Pos} (hm : X.mg x = some u) (r : RelV v u) (hg : Gl X x := by rfl) (hd : (x == ("__debug__" : Str)) = false := by decide) : PE X (.Name x pos) (tC v) := pe_glob hg hm r hd
end K17

set_option Elab.async false
set_option linter.all false
set_option maxRecDepth 100000
set_option maxHeartbeats 4000000
namespace K17
open PySem PySem.Spec PyProof.Rows L2 Mth
/-! ### plain -/
def chz (n : Nat) (k : Int) : Nat := if 0 ≤ k then C n k.toNat else 0
theorem chz_nat (n k : Nat) : chz n (k : Int) = C n k := by
  unfold chz
  rw [if_pos (by omega), Int.toNat_natCast]
theorem chz_neg {n : Nat} {k : Int} (h : k < 0) : chz n k = 0 := if_neg (by omega)
theorem C_int_step (n s : Nat) (h : s < n) : ((C n s : Nat) : Int) * ((n : Int) - (s : Int)) / ((s : Int) + 1) = ((C n (s + 1) : Nat) : Int) := by
  have e := C_step n s
  have e2 : ((C n s : Nat) : Int) * ((n : Int) - (s : Int)) = ((C n (s + 1) : Nat) : Int) * ((s : Int) + 1) := by
    rw [show (n : Int) - (s : Int) = ((n - s : Nat) : Int) by omega, show (s : Int) + 1 = ((s + 1 : Nat) : Int) by omega, ← Int.natCast_mul, ← Int.natCast_mul, e]
  rw [e2, Int.mul_ediv_cancel _ (by omega)]
section
variable {P : Program} {w : World} {K : PySem.W.Frag} {mg : Str → Option Value} {base : Heap}
/-! ### require -/
def spRequire : Sp := fun vs H Q _ => vs = [.bl true] ∧ Q .non H
theorem scRequire : FnScope ["holds"] ["holds"] (defScope (topS 14)) := ⟨rfl, rfl, rfl, by decide +kernel, rfl, by decide +kernel, by decide +kernel⟩
theorem has_require (F : Fn K mg "require" 14) : Has P w K mg base "require" ["holds"] 1 spRequire := by
  refine has_mk F scRequire (fun _ _ _ _ _ _ us hl => match us, hl with | [_], _ => rfl) (fun vs H Q E h => ?_) (fun f cdv A outer s H vs Q E hr h => ?_)
  · obtain ⟨rfl, _⟩ := h
    rfl
  · obtain ⟨rfl, q⟩ := h
    refine ⟨_, pss_one (ps_if (pt_not (pt_val (pv 0))) pss_never pss_nil), ?_⟩
    refine ⟨.bl true, rfl, true, rfl, ?_⟩
    exact iteF q
/-! ### choose -/
def spChoose : Sp := fun vs H Q _ => ∃ (n : Nat) (k : Int), vs = [.int n, .int k] ∧ n ≤ 60 ∧ Q (.int (chz n k : Nat)) H
theorem scChoose : FnScope ["n", "k", "found", "step"] ["n", "k"] (defScope (topS 15)) := ⟨rfl, rfl, rfl, by decide +kernel, rfl, by decide +kernel, by decide +kernel⟩
theorem has_choose (F : Fn K mg "choose" 15) (T : Txt K mg) : Has P w K mg base "choose" ["n", "k"] 1 spChoose := by
  refine has_mk F scChoose (fun _ _ _ _ _ _ us hl => match us, hl with | [_, _], _ => rfl) (fun vs H Q E h => ?_) (fun f cdv A outer s H vs Q E hr h => ?_)
  · obtain ⟨n, k, rfl, _⟩ := h
    rfl
  · obtain ⟨n, k, rfl, hn, q⟩ := h
    refine ⟨_, pss_cons (ps_if (pt_not (pt_chain op_le op_le pe_int (pv 1) (pv 0))) (pss_one (ps_ret pe_int)) pss_nil)
      (pss_cons (ps_set (i := 2) scChoose.nd rfl (.inl rfl) pe_int)
      (pss_cons (ps_for PassesOwn.never rfl (pi_range1 rfl T.range (pa_cons (pv 1) pa_nil)) (pg_name (i := 3) scChoose.nd rfl (.inl rfl))
        (pss_one (ps_set (i := 2) scChoose.nd rfl (.inl rfl) (pe_op op_fdiv (pe_op op_mul (pv 2) (pe_op op_sub (pv 0) (pv 3))) (pe_op op_add (pv 3) pe_int)))))
      (pss_one (ps_ret (pv 2))))), ?_⟩
    refine ⟨.int k, rfl, 0, k, rfl, rfl, _, rfl, ite2 (fun h0 => ?_) (fun h0 => ?_)⟩
    · have h0 : 0 ≤ k := of_decide_eq_true h0
      refine ⟨.int n, rfl, k, n, rfl, rfl, _, rfl, ?_⟩
      by_cases h1 : k ≤ (n : Int)
      · rw [decide_eq_true h1]
        refine iteF ?_
        obtain ⟨m, rfl⟩ := Int.eq_ofNat_of_zero_le h0
        rw [chz_nat] at q
        refine ⟨.int m, rfl, (m : Int), rfl, by omega, by omega, ?_⟩
        refine for_range (lo := 0) (n := (m : Int).toNat) (fun i σ H' => ∃ v, σ = [some (.int n), some (.int m), some (.int (C n i : Nat)), v] ∧ H' = H) ⟨none, by rw [C_0]; rfl, rfl⟩ ?_ ?_
        · rintro i σ H' hi ⟨v, rfl, rfl⟩
          rw [Int.toNat_natCast] at hi
          have hin : i < n := by omega
          refine ⟨.int (C n i : Nat), rfl, .int n, rfl, .int (0 + (i : Int)), rfl, n, _, rfl, rfl, _, _, rfl, rfl, .inr ⟨?_, ?_⟩, .int (0 + (i : Int)), rfl, _, _, rfl, rfl, _, _, rfl, rfl, ⟨?_, ?_⟩, some (.int (0 + (i : Int))), ?_, rfl⟩
          · omega
          · omega
          · omega
          · omega
          · rw [Int.zero_add, ← C_int_step n i hin]
            rfl
        · rintro σ H' ⟨v, rfl, rfl⟩
          rw [Int.toNat_natCast]
          exact ⟨_, rfl, q⟩
      · rw [decide_eq_false h1]
        refine iteT ?_
        obtain ⟨m, rfl⟩ := Int.eq_ofNat_of_zero_le h0
        rw [chz_nat, C_gt (by omega)] at q
        exact q
    · have h0 : k < 0 := by
        rcases Int.lt_or_le k 0 with z | z
        · exact z
        · exact absurd (decide_eq_true z) h0
      refine ⟨false, rfl, iteT ?_⟩
      rw [chz_neg h0] at q
      exact q
/-! ### power_of -/
def spPower : Sp := fun vs H Q _ => ∃ b m : Nat, vs = [.int b, .int m] ∧ b ≤ 1000 ∧ m ≤ 60 ∧ Q (.int (b ^ m : Nat)) H
theorem scPower : FnScope ["base", "many", "found", "_"] ["base", "many"] (defScope (topS 16)) := ⟨rfl, rfl, rfl, by decide +kernel, rfl, by decide +kernel, by decide +kernel⟩
theorem has_power (F : Fn K mg "power_of" 16) (T : Txt K mg) : Has P w K mg base "power_of" ["base", "many"] 1 spPower := by
  refine has_mk F scPower (fun _ _ _ _ _ _ us hl => match us, hl with | [_, _], _ => rfl) (fun vs H Q E h => ?_) (fun f cdv A outer s H vs Q E hr h => ?_)
  · obtain ⟨n, k, rfl, _⟩ := h
    rfl
  · obtain ⟨b, m, rfl, hb, hm, q⟩ := h
    refine ⟨_, pss_cons (ps_set (i := 2) scPower.nd rfl (.inl rfl) pe_int)
      (pss_cons (ps_for PassesOwn.never rfl (pi_range1 rfl T.range (pa_cons (pv 1) pa_nil)) (pg_name (i := 3) scPower.nd rfl (.inl rfl))
        (pss_one (ps_aug (i := 2) scPower.nd rfl (.inl rfl) (pv 0) iop_mul)))
      (pss_one (ps_ret (pv 2)))), ?_⟩
    refine ⟨.int m, rfl, (m : Int), rfl, by omega, by omega, ?_⟩
    refine for_range (lo := 0) (n := (m : Int).toNat) (fun i σ H' => ∃ v, σ = [some (.int b), some (.int m), some (.int (b ^ i : Nat)), v] ∧ H' = H) ⟨none, rfl, rfl⟩ ?_ ?_
    · rintro i σ H' hi ⟨v, rfl, rfl⟩
      refine ⟨_, rfl, .int b, rfl, _, _, rfl, rfl, .inr ⟨?_, ?_⟩, some (.int (0 + (i : Int))), ?_, rfl⟩
      · omega
      · omega
      · rw [Nat.pow_succ, Int.natCast_mul]
        rfl
    · rintro σ H' ⟨v, rfl, rfl⟩
      rw [Int.toNat_natCast]
      exact ⟨_, rfl, q⟩
/-! ### number_of_words -/
theorem args2 {a b c d : Int} (h1 : a = c) (h2 : b = d) : [V.int a, V.int b] ++ ([] : List V) = [V.int c, V.int d] := by
  rw [h1, h2]
  rfl
theorem cmulR {a : Int} {n : Nat} (h : n < 2 ^ 64) : CMul a (n : Int) := .inr ⟨by omega, by omega⟩
theorem cmulL {a : Int} {n : Nat} (h : n < 2 ^ 64) : CMul (n : Int) a := .inl ⟨by omega, by omega⟩
theorem pow_small {b m : Nat} (hb : b ≤ 20) (hm : m ≤ 12) : b ^ m < 2 ^ 64 :=
  Nat.lt_of_le_of_lt (Nat.le_trans (Nat.pow_le_pow_left hb m) (Nat.pow_le_pow_right (by decide) hm)) (by decide)
theorem C_small {n k : Nat} (h : n ≤ 60) : C n k < 2 ^ 64 := Nat.lt_of_le_of_lt (Nat.le_trans (C_le_two n k) (Nat.pow_le_pow_right (by decide) h)) (by decide)
theorem min3 (a b c : Int) : ∃ m, nuMin3 (.int a) (.int b) (.int c) = some (.int m) ∧ (0 ≤ m ↔ 0 ≤ a ∧ 0 ≤ b ∧ 0 ≤ c) := by
  have e : nuMin3 (.int a) (.int b) (.int c) = nuMin2 (if decide (b < a) = true then .int b else .int a) (.int c) := rfl
  by_cases h1 : b < a
  · have e1 : nuMin2 (.int b) (.int c) = some (if decide (c < b) = true then .int c else .int b) := rfl
    rw [e, decide_eq_true h1, if_pos rfl, e1]
    by_cases h2 : c < b
    · rw [decide_eq_true h2, if_pos rfl]
      exact ⟨c, rfl, by omega⟩
    · rw [decide_eq_false h2, if_neg (by decide)]
      exact ⟨b, rfl, by omega⟩
  · have e1 : nuMin2 (.int a) (.int c) = some (if decide (c < a) = true then .int c else .int a) := rfl
    rw [e, decide_eq_false h1, if_neg (by decide), e1]
    by_cases h2 : c < a
    · rw [decide_eq_true h2, if_pos rfl]
      exact ⟨c, rfl, by omega⟩
    · rw [decide_eq_false h2, if_neg (by decide)]
      exact ⟨a, rfl, by omega⟩
def spWords : Sp := fun vs H Q _ => ∃ n x i j k : Nat, vs = [.int n, .int (x + 2 : Nat), .int i, .int j, .int k] ∧ n ≤ 12 ∧ x ≤ 18 ∧ i ≤ n ∧ j ≤ n ∧ k ≤ n ∧ Q (.int (pw n x i j k : Nat)) H
abbrev nWords : List Str := ["n", "q", "i", "j", "k", "found", "both", "other", "first", "second", "ways"]
theorem scWords : FnScope nWords ["n", "q", "i", "j", "k"] (defScope (topS 25)) := ⟨rfl, rfl, rfl, by decide +kernel, rfl, by decide +kernel, by decide +kernel⟩
theorem has_words (F : Fn K mg "number_of_words" 25) (T : Txt K mg) (C1 : Has P w K mg base "choose" ["n", "k"] 1 spChoose) (C2 : Has P w K mg base "power_of" ["base", "many"] 1 spPower) :
    Has P w K mg base "number_of_words" ["n", "q", "i", "j", "k"] 2 spWords := by
  refine has_mk F scWords (fun _ _ _ _ _ _ us hl => match us, hl with | [_, _, _, _, _], _ => rfl) (fun vs H Q E h => ?_) (fun f cdv A outer s H vs Q E hr h => ?_)
  · obtain ⟨n, x, i, j, k, rfl, _⟩ := h
    rfl
  · obtain ⟨n, x, i, j, k, rfl, hn, hx, hi, hj, hk, q⟩ := h
    refine ⟨_, pss_cons (ps_set (i := 5) scWords.nd rfl (.inl rfl) pe_int)
      (pss_cons (ps_for PassesOwn.never rfl (pi_range1 rfl T.range (pa_cons (pe_op op_add (pe_op op_sub (pv 0) (pv 4)) pe_int) pa_nil)) (pg_name (i := 6) scWords.nd rfl (.inl rfl))
        (pss_cons (ps_set (i := 7) scWords.nd rfl (.inl rfl) (pe_op op_sub (pe_op op_sub (pe_op op_add (pv 2) (pv 3)) (pv 4)) (pe_op op_mul pe_int (pv 6))))
        (pss_cons (ps_par (i := 8) (j := 9) (by rfl) scWords.nd rfl rfl (by decide) rfl rfl (pa_cons (pe_op op_add (pe_op op_sub (pv 4) (pv 3)) (pv 6)) (pa_cons (pe_op op_add (pe_op op_sub (pv 4) (pv 2)) (pv 6)) pa_nil)) (by rfl))
        (pss_one (ps_if (pt_cmpR op_ge (pe_callB (call_min3Nu rfl) (by rfl) T.min (by decide +kernel) (pa_cons (pv 8) (pa_cons (pv 9) (pa_cons (pv 7) pa_nil)))) pe_int (nomark _))
          (pss_cons (ps_set (i := 10) scWords.nd rfl (.inl rfl) (pe_op op_mul (pe_op op_mul (pe_op op_mul (pe_h C1 hr (by rfl) (pa_cons (pe_op op_sub (pv 0) (pv 4)) (pa_cons (pv 6) pa_nil)))
              (pe_h C2 hr (by rfl) (pa_cons (pe_op op_sub (pv 1) pe_int) (pa_cons (pv 6) pa_nil)))) (pe_h C1 hr (by rfl) (pa_cons (pv 4) (pa_cons (pv 8) pa_nil)))) (pe_h C1 hr (by rfl) (pa_cons (pe_op op_sub (pv 4) (pv 8)) (pa_cons (pv 9) pa_nil)))))
          (pss_one (ps_aug (i := 5) scWords.nd rfl (.inl rfl) (pe_op op_mul (pv 10) (pe_h C2 hr (by rfl) (pa_cons (pe_op op_sub (pv 1) pe_int) (pa_cons (pv 7) pa_nil)))) ip_add)))
          pss_nil)))))
      (pss_one (ps_ret (pv 5)))), ?_⟩
    -- range(n - k + 1)
    refine ⟨.int n, rfl, .int k, rfl, _, _, rfl, rfl, _, _, rfl, rfl, ((n : Int) - (k : Int) + 1), rfl, by omega, by omega, ?_⟩
    refine for_range (lo := 0) (n := ((n : Int) - (k : Int) + 1).toNat) (fun t σ H' => ∃ v6 v7 v8 v9 v10, σ = [some (.int n), some (.int (x + 2 : Nat)), some (.int i), some (.int j), some (.int k), some (.int (Sm t (tw n x i j k) : Nat)), v6, v7, v8, v9, v10] ∧ H' = H)
      ⟨none, none, none, none, none, rfl, rfl⟩ ?_ ?_
    · rintro t σ H' ht ⟨v6, v7, v8, v9, v10, rfl, rfl⟩
      have ht : t ≤ n - k := by omega
      -- other
      refine ⟨.int i, rfl, .int j, rfl, _, _, rfl, rfl, .int k, rfl, _, _, rfl, rfl, .int (0 + (t : Int)), rfl, _, _, rfl, rfl, .inl ⟨by omega, by omega⟩, _, _, rfl, rfl, ?_⟩
      -- first, second
      refine ⟨.int k, rfl, .int j, rfl, _, _, rfl, rfl, .int (0 + (t : Int)), rfl, _, _, rfl, rfl, .int k, rfl, .int i, rfl, _, _, rfl, rfl, .int (0 + (t : Int)), rfl, _, _, rfl, rfl, _, _, rfl, ?_⟩
      -- the test
      obtain ⟨m, em, hm⟩ := min3 ((k : Int) - (j : Int) + (0 + (t : Int))) ((k : Int) - (i : Int) + (0 + (t : Int))) ((i : Int) + (j : Int) - (k : Int) - 2 * (0 + (t : Int)))
      refine ⟨_, rfl, _, rfl, _, rfl, _, _, _, _, rfl, em, m, 0, rfl, rfl, _, rfl, ?_⟩
      by_cases h : j ≤ k + t ∧ i ≤ k + t ∧ k + 2 * t ≤ i + j
      · rw [decide_eq_true (hm.mpr ⟨by omega, by omega, by omega⟩)]
        refine iteT ?_
        obtain ⟨h1, h2, h3⟩ := h
        refine ⟨.int n, rfl, .int k, rfl, _, _, rfl, rfl, .int (0 + (t : Int)), rfl, n - k, (t : Int), args2 (by omega) (by omega), by omega, ?_⟩
        refine ⟨.int (x + 2 : Nat), rfl, _, _, rfl, rfl, .int (0 + (t : Int)), rfl, x + 1, t, args2 (by omega) (by omega), by omega, by omega, ?_⟩
        refine ⟨_, _, rfl, rfl, cmulR (pow_small (by omega) (by omega)), .int k, rfl, _, rfl, k, ((k + t - j : Nat) : Int), args2 rfl (by omega), by omega, ?_⟩
        refine ⟨_, _, rfl, rfl, cmulR ?_, .int k, rfl, _, rfl, _, _, rfl, rfl, _, rfl, k - (k + t - j), ((k + t - i : Nat) : Int), args2 (by omega) (by omega), by omega, ?_⟩
        · rw [chz_nat]
          exact C_small (by omega)
        refine ⟨_, _, rfl, rfl, cmulR ?_, ?_⟩
        · rw [chz_nat]
          exact C_small (by omega)
        refine ⟨_, rfl, _, rfl, .int (x + 2 : Nat), rfl, _, _, rfl, rfl, _, rfl, x, i + j - k - 2 * t, args2 (by omega) (by omega), by omega, by omega, ?_⟩
        refine ⟨_, _, rfl, rfl, cmulR (pow_small (by omega) (by omega)), _, _, rfl, rfl, ?_⟩
        refine ⟨_, _, _, _, _, congrArg (fun z : Int => [some (V.int n), some (.int (x + 2 : Nat)), some (.int i), some (.int j), some (.int k), some (.int z), _, _, _, _, _]) ?_, rfl⟩
        rw [Sm_s, Int.natCast_add]
        unfold tw
        rw [if_pos ⟨h1, h2, h3⟩, chz_nat, chz_nat, chz_nat]
        simp only [Int.natCast_mul]
      · rw [decide_eq_false (fun z => h (by have := hm.mp z; omega))]
        refine iteF ?_
        refine ⟨_, _, _, _, _, congrArg (fun z : Nat => [some (V.int n), some (.int (x + 2 : Nat)), some (.int i), some (.int j), some (.int k), some (.int z), _, _, _, _, _]) ?_, rfl⟩
        rw [Sm_s]
        unfold tw
        rw [if_neg h]
        rfl
    · rintro σ H' ⟨v6, v7, v8, v9, v10, rfl, rfl⟩
      refine ⟨_, rfl, ?_⟩
      rw [show ((n : Int) - (k : Int) + 1).toNat = n - k + 1 by omega]
      exact q
end
end K17

set_option Elab.async false
set_option linter.all false
set_option maxRecDepth 100000
set_option maxHeartbeats 4000000
namespace K17
open PySem PySem.Spec PyProof.Rows L2 Mth
section
variable {P : Program} {w : World} {K : PySem.W.Frag} {mg : Str → Option Value} {base : Heap}
theorem chz_sub (n a b c : Nat) : chz n ((a : Int) - (b : Int) - (c : Int)) = if b + c ≤ a then C n (a - b - c) else 0 := by
  by_cases h : b + c ≤ a
  · rw [if_pos h, show (a : Int) - (b : Int) - (c : Int) = ((a - b - c : Nat) : Int) by omega, chz_nat]
  · rw [if_neg h, chz_neg (by omega)]
theorem chz_add (n a b c d : Nat) : chz n ((a : Int) + (b : Int) + (c : Int) - (d : Int)) = if d ≤ a + b + c then C n (a + b + c - d) else 0 := by
  by_cases h : d ≤ a + b + c
  · rw [if_pos h, show (a : Int) + (b : Int) + (c : Int) - (d : Int) = ((a + b + c - d : Nat) : Int) by omega, chz_nat]
  · rw [if_neg h, chz_neg (by omega)]
theorem chz_small {n : Nat} {k : Int} (h : n ≤ 60) : chz n k < 2 ^ 64 := by
  unfold chz
  by_cases e : 0 ≤ k
  · rw [if_pos e]
    exact C_small h
  · rw [if_neg e]
    decide
def spSets : Sp := fun vs H Q _ => ∃ n m i j k : Nat, vs = [.int n, .int m, .int i, .int j, .int k] ∧ n ≤ 40 ∧ 2 * m ≤ n ∧ i ≤ m ∧ j ≤ m ∧ k ≤ m ∧ Q (.int (ps n m i j k : Nat)) H
abbrev nSets : List Str := ["n", "m", "i", "j", "k", "found", "common", "ways"]
theorem scSets : FnScope nSets ["n", "m", "i", "j", "k"] (defScope (topS 26)) := ⟨rfl, rfl, rfl, by decide +kernel, rfl, by decide +kernel, by decide +kernel⟩
theorem has_sets (F : Fn K mg "number_of_sets" 26) (T : Txt K mg) (C1 : Has P w K mg base "choose" ["n", "k"] 1 spChoose) : Has P w K mg base "number_of_sets" ["n", "m", "i", "j", "k"] 2 spSets := by
  refine has_mk F scSets (fun _ _ _ _ _ _ us hl => match us, hl with | [_, _, _, _, _], _ => rfl) (fun vs H Q E h => ?_) (fun f cdv A outer s H vs Q E hr h => ?_)
  · obtain ⟨n, m, i, j, k, rfl, _⟩ := h
    rfl
  · obtain ⟨n, m, i, j, k, rfl, hn, hm, hi, hj, hk, q⟩ := h
    refine ⟨_, pss_cons (ps_set (i := 5) scSets.nd rfl (.inl rfl) pe_int)
      (pss_cons (ps_for PassesOwn.never rfl (pi_range1 rfl T.range (pa_cons (pe_op op_add (pe_op op_sub (pv 1) (pv 4)) pe_int) pa_nil)) (pg_name (i := 6) scSets.nd rfl (.inl rfl))
        (pss_cons (ps_set (i := 7) scSets.nd rfl (.inl rfl) (pe_op op_mul (pe_op op_mul (pe_h C1 hr (by rfl) (pa_cons (pe_op op_sub (pv 1) (pv 4)) (pa_cons (pv 6) pa_nil)))
              (pe_h C1 hr (by rfl) (pa_cons (pv 4) (pa_cons (pe_op op_sub (pe_op op_sub (pv 1) (pv 2)) (pv 6)) pa_nil)))) (pe_h C1 hr (by rfl) (pa_cons (pv 4) (pa_cons (pe_op op_sub (pe_op op_sub (pv 1) (pv 3)) (pv 6)) pa_nil)))))
        (pss_one (ps_aug (i := 5) scSets.nd rfl (.inl rfl) (pe_op op_mul (pv 7) (pe_h C1 hr (by rfl) (pa_cons (pe_op op_sub (pe_op op_sub (pv 0) (pv 1)) (pv 4)) (pa_cons (pe_op op_sub (pe_op op_add (pe_op op_add (pv 2) (pv 3)) (pv 6)) (pv 1)) pa_nil)))) ip_add))))
      (pss_one (ps_ret (pv 5)))), ?_⟩
    refine ⟨.int m, rfl, .int k, rfl, _, _, rfl, rfl, _, _, rfl, rfl, ((m : Int) - (k : Int) + 1), rfl, by omega, by omega, ?_⟩
    refine for_range (lo := 0) (n := ((m : Int) - (k : Int) + 1).toNat) (fun t σ H' => ∃ v6 v7, σ = [some (.int n), some (.int m), some (.int i), some (.int j), some (.int k), some (.int (Sm t (ts n m i j k) : Nat)), v6, v7] ∧ H' = H)
      ⟨none, none, rfl, rfl⟩ ?_ ?_
    · rintro t σ H' ht ⟨v6, v7, rfl, rfl⟩
      have ht : t ≤ m - k := by omega
      refine ⟨.int m, rfl, .int k, rfl, _, _, rfl, rfl, .int (0 + (t : Int)), rfl, m - k, (t : Int), args2 (by omega) (by omega), by omega, ?_⟩
      refine ⟨.int k, rfl, .int m, rfl, .int i, rfl, _, _, rfl, rfl, .int (0 + (t : Int)), rfl, _, _, rfl, rfl, k, (m : Int) - (i : Int) - (t : Int), args2 rfl (by omega), by omega, ?_⟩
      refine ⟨_, _, rfl, rfl, cmulR (chz_small (by omega)), ?_⟩
      refine ⟨.int k, rfl, .int m, rfl, .int j, rfl, _, _, rfl, rfl, .int (0 + (t : Int)), rfl, _, _, rfl, rfl, k, (m : Int) - (j : Int) - (t : Int), args2 rfl (by omega), by omega, ?_⟩
      refine ⟨_, _, rfl, rfl, cmulR (chz_small (by omega)), ?_⟩
      refine ⟨_, rfl, _, rfl, .int n, rfl, .int m, rfl, _, _, rfl, rfl, .int k, rfl, _, _, rfl, rfl, .int i, rfl, .int j, rfl, _, _, rfl, rfl, .int (0 + (t : Int)), rfl, _, _, rfl, rfl, .int m, rfl, _, _, rfl, rfl,
        n - m - k, (i : Int) + (j : Int) + (t : Int) - (m : Int), args2 (by omega) (by omega), by omega, ?_⟩
      refine ⟨_, _, rfl, rfl, cmulR (chz_small (by omega)), _, _, rfl, rfl, ?_⟩
      refine ⟨_, _, congrArg (fun z : Int => [some (V.int n), some (.int m), some (.int i), some (.int j), some (.int k), some (.int z), _, _]) ?_, rfl⟩
      rw [Sm_s, Int.natCast_add]
      unfold ts
      rw [chz_nat, chz_sub, chz_sub, chz_add]
      simp only [Int.natCast_mul]
    · rintro σ H' ⟨v6, v7, rfl, rfl⟩
      refine ⟨_, rfl, ?_⟩
      rw [show ((m : Int) - (k : Int) + 1).toNat = m - k + 1 by omega]
      exact q
end
end K17

set_option Elab.async false
set_option linter.all false
set_option maxRecDepth 100000
set_option maxHeartbeats 4000000
/-! tuples of which it is known that they are no more than tuples: their methods may be called -/
namespace L2
open PySem PySem.Spec PyProof.Rows
def PlainT (H : Hp) (a : Addr) (xs : List V) : Prop := ∃ o : Obj, H a = some (.frz o (.tup xs)) ∧ o.cls = .type "tuple" ∧ o.dict = none
theorem PlainT.sq {K : PySem.W.Frag} {H : Hp} {a : Addr} {xs : List V} : PlainT H a xs → SqT K H a xs := fun ⟨o, h, _⟩ => .inl (.inr ⟨o, h⟩)
theorem PlainT.same {H H' : Hp} {a : Addr} {xs : List V} (e : Same H H') : PlainT H a xs → PlainT H' a xs := fun ⟨o, h, r⟩ => ⟨o, e _ _ h, r⟩
theorem PlainT.there {H : Hp} {a : Addr} {xs : List V} : PlainT H a xs → ∃ o, H a = some o := fun ⟨_, h, _⟩ => ⟨_, h⟩
section
variable {X : Cx}
/-- tuple(l), l a list: a new plain tuple -/
def rTupP (K : PySem.W.Frag) : List V → Hp → VK → Prop := fun xs H Q => ∃ (p : Addr) (ys : List V), xs = [.ref p] ∧ SqL K H p ys ∧ ∀ (l : Addr) (o : HO), H l = none → PlainT (upd H l o) l ys → Q (.ref l) (upd H l o)
theorem call_tupleP : CallR X (.type "tuple") (rTupP X.K) := by
  intro pins s σ H xs us Q I r h
  obtain ⟨p, ys, rfl, hq, q⟩ := h
  obtain ⟨u, rfl, rx⟩ := vals1 r
  cases rx
  obtain ⟨its, r', pl, hz⟩ := I.list hq
  have hlen := r'.length
  refine call_tuple_list pl.isList (fun h' kp => ?_) (by simp only [List.size_toArray]; omega)
  have I1 : Inv X pins σ H { s with heap := h' } := I.kept (t' := s.toks) kp
  have new : (h'.push { cls := .type "tuple", data := .seq its.toArray }).get? h'.objs.size = some { cls := .type "tuple", data := .seq its.toArray } := Heap.get?_push_size _ rfl
  have I2 : Inv X pins σ (upd H h'.objs.size (.frz { cls := .type "tuple", data := .seq its.toArray } (.tup ys))) { s with heap := h'.push { cls := .type "tuple", data := .seq its.toArray } } :=
    I1.laid (t' := s.toks) (fun b o e => Heap.get?_push_of_some _ e) (Nat.le_refl _) ⟨new, hz, its, r', IsTup.new _ _⟩
  exact ⟨.ref h'.objs.size, _, I2, rfl, q _ _ (I1.hok.fresh (Nat.le_refl _)) ⟨_, upd_same, rfl, rfl⟩⟩
/-- a method with arguments of a plain tuple -/
def tBMP (r : V → List V → Hp → VK → Prop) (to : TE) (t : TA) : TE := fun σ H Q => to σ H fun x H1 => (∃ a xs, x = .ref a ∧ PlainT H1 a xs) ∧ t σ H1 fun xs H2 => r x xs H2 Q
theorem pe_bmP {o e : Expr} {es : List Expr} {to : TE} {t : TA} {name : Str} {id : String} {r : V → List V → Hp → VK → Prop} {apos cpos : Pos} (pa : PlainAttrs "tuple") (slot : Slot "tuple" name id) (hty : typeOf (.builtin id) = pure (.type "method_descriptor")) (hm : MtR X id r) (ho : PE X o to) (ha : PA X (e :: es) t)
    (hbase : attributeBase o name X.env (eval o X.env) = eval o X.env := by rfl)
    (hfew : ((backTo cpos (starEach (e :: es) X.env)).all (fun x => !x.1) && (backToKw cpos (keywordEach [] X.env)).all (fun x => x.1.isSome)
      && decide ((e :: es).length + ([] : List Keyword).length + (if ([] : List Keyword).isEmpty then 0 else 1) < 30)) = true := by rfl)
    (hline : (apos.endLine == cpos.line) = true := by rfl) (hs : starEach (e :: es) X.env = (false, eval e X.env) :: starEach es X.env := by rfl) (hplain : (backTo cpos (starEach es X.env)).any (·.1) = false := by rfl) :
    PE X (.Call (.Attribute o name apos) (e :: es) [] cpos) (tBMP r to t) := by
  refine ⟨fun pins s σ H Q I h => ?_⟩
  refine wpAny_Call_method_late hbase hfew hline rfl (thn (ho.run pins s σ H _ I h) fun v s1 ⟨x, H1, I1, r1, ⟨a, xs, ex, ob, hp, hc, hd⟩, q1⟩ => ?_)
  subst ex
  have hv : v = .ref a := r1
  subst hv
  obtain ⟨eo, _⟩ := (show s1.heap.get? a = some ob ∧ ObjOk X.prog X.w H1 s1.heap a (.tup xs) from I1.hok a _ hp)
  refine ⟨"tuple", id, pa, slot, hty, ⟨ob, eo, hc⟩, fun b e => ?_, ?_⟩
  · cases e
    exact ⟨ob, eo, hd⟩
  · have hA := ha.run cpos pins s1 σ H1 _ I1 q1
    rw [hs] at hA ⊢
    refine Calls.callWith_builtin (by show (false || (backTo cpos (starEach es X.env)).any (·.1)) = false; rw [hplain]; rfl) (Calls.evalArgs_plain ?_)
    exact thn hA fun us s2 ⟨vs, H2, I2, r2, q2⟩ => hm pins s2 σ H2 (.ref a) vs (.ref a) us Q I2 rfl r2 q2
def rTcnt (K : PySem.W.Frag) : V → List V → Hp → VK → Prop := fun x xs H Q => ∃ (p : Addr) (ns : List Int) (k : Int), x = .ref p ∧ xs = [.int k] ∧ SqT K H p (ns.map V.int) ∧ Q (.int (ns.count k : Nat)) H
theorem mt_tcountK {K : PySem.W.Frag} (hK : X.K = K := by rfl) : MtR X "tuple.count" (rTcnt K) := by
  subst hK
  exact mt_tcountI
def rTidx (K : PySem.W.Frag) : V → List V → Hp → VK → Prop := fun x xs H Q => ∃ (p : Addr) (ns : List Int) (k : Int), x = .ref p ∧ xs = [.int k] ∧ SqT K H p (ns.map V.int) ∧ k ∈ ns ∧ Q (.int (ns.idxOf k : Nat)) H
theorem mt_tindexK {K : PySem.W.Frag} (hK : X.K = K := by rfl) : MtR X "tuple.index" (rTidx K) := by
  subst hK
  exact mt_tindexI
/-- t[i], l[i] with the written part named -/
theorem pxT {K : PySem.W.Frag} {a b : Expr} {ta tb : TE} {pos : Pos} (ha : PE X a ta) (hb : PE X b tb) (hK : X.K = K := by rfl) (hs : PlainIx b := by exact fun _ _ => rfl) : PE X (.Subscript a b pos) (tOp (rIxT K) ta tb) := by
  subst hK
  exact pe_ix ix_tup ha hb hs
theorem pxL {K : PySem.W.Frag} {a b : Expr} {ta tb : TE} {pos : Pos} (ha : PE X a ta) (hb : PE X b tb) (hK : X.K = K := by rfl) (hs : PlainIx b := by exact fun _ _ => rfl) : PE X (.Subscript a b pos) (tOp (rIxL K) ta tb) := by
  subst hK
  exact pe_ix ix_list ha hb hs
end
end L2

set_option Elab.async false
set_option linter.all false
set_option maxRecDepth 100000
set_option maxHeartbeats 4000000
namespace K17
open PySem PySem.Spec PyProof.Rows L2 Mth
/-! ### tuples that stay -/
theorem Same.tp {K : PySem.W.Frag} {H H' : Hp} {a : Addr} {xs : List V} (e : Same H H') (h : SqT K H a xs) : SqT K H' a xs := by
  rcases h with (h | ⟨o, h⟩) | h
  · exact .inl (.inl (e _ _ h))
  · exact .inl (.inr ⟨o, e _ _ h⟩)
  · exact .inr h
theorem Same.fresh {H : Hp} {p : Addr} {o : HO} (h : H p = none) : Same H (upd H p o) := fun b x e => by
  rw [upd_ne (ne_of_none e h)]
  exact e
theorem tpU {K : PySem.W.Frag} {H : Hp} {p : Addr} {xs : List V} : SqT K (upd H p (.tup xs)) p xs := .inl (.inl upd_same)
theorem lsU {K : PySem.W.Frag} {H : Hp} {p : Addr} {xs : List V} : SqL K (upd H p (.lst xs)) p xs := .inl (.inl upd_same)
theorem iteD {c A B : Prop} [Decidable c] (hc : ¬ c) (h : B) : if decide c = true then A else B := by
  rw [decide_eq_false hc]
  exact iteF h
theorem iteE {c A B : Prop} [Decidable c] (hc : c) (h : A) : if decide c = true then A else B := by
  rw [decide_eq_true hc]
  exact iteT h
abbrev vW : V := .str "words"
abbrev vS : V := .str "sets"
abbrev vL : V := .str "listed"
abbrev vP : V := .str "product"
theorem nSW : ¬ vS = vW := by decide +kernel
theorem nLW : ¬ vL = vW := by decide +kernel
theorem nPW : ¬ vP = vW := by decide +kernel
theorem nLS : ¬ vL = vS := by decide +kernel
theorem nPS : ¬ vP = vS := by decide +kernel
theorem nPL : ¬ vP = vL := by decide +kernel
theorem nWS : ¬ vW = vS := by decide +kernel
theorem nWL : ¬ vW = vL := by decide +kernel
theorem nSL : ¬ vS = vL := by decide +kernel
theorem nWP : ¬ vW = vP := by decide +kernel
theorem nSP : ¬ vS = vP := by decide +kernel
theorem nLP : ¬ vL = vP := by decide +kernel
/-! ### tables, trees in the heap -/
def RowsAt (K : PySem.W.Frag) (H : Hp) (b : Addr) (R : List (List Int)) : Prop := ∃ rs : List Addr, SqT K H b (rs.map V.ref) ∧ Paired (fun r row => PlainT H r (row.map V.int)) rs R
theorem Paired.len {α β : Type} {F : α → β → Prop} : ∀ {l : List α} {m : List β}, Paired F l m → l.length = m.length
  | _, _, .nil => rfl
  | _, _, .cons _ t => congrArg Nat.succ (Paired.len t)
theorem Paired.get2 {α β : Type} {F : α → β → Prop} : ∀ {l : List α} {m : List β} {i : Nat} {y : β}, Paired F l m → m[i]? = some y → ∃ x, l[i]? = some x ∧ F x y
  | _, _, i, y, .nil, h => by simp at h
  | _, _, 0, y, .cons r _, h => by
    have e := Option.some.inj h
    subst e
    exact ⟨_, rfl, r⟩
  | _, _, i + 1, y, .cons _ t, h => Paired.get2 (i := i) t h
theorem Paired.imp {α β : Type} {F G : α → β → Prop} (h : ∀ a b, F a b → G a b) : ∀ {l : List α} {m : List β}, Paired F l m → Paired G l m
  | _, _, .nil => .nil
  | _, _, .cons r t => .cons (h _ _ r) (Paired.imp h t)
theorem rows_get {H : Hp} {rs : List Addr} {R : List (List Int)} (h : Paired (fun r row => PlainT H r (row.map V.int)) rs R) {x : Nat} (hx : x < R.length) : ∃ r, (rs.map V.ref)[x]? = some (.ref r) ∧ PlainT H r ((R.getD x []).map V.int) := by
  obtain ⟨r, e, q⟩ := Paired.get2 h (List.getElem?_eq_getElem hx)
  refine ⟨r, by rw [List.getElem?_map, e]; rfl, ?_⟩
  rw [List.getD_eq_getElem?_getD, List.getElem?_eq_getElem hx]
  exact q
theorem RowsAt.same {K : PySem.W.Frag} {H H' : Hp} {b : Addr} {R : List (List Int)} (e : Same H H') : RowsAt K H b R → RowsAt K H' b R
  | ⟨rs, h1, h2⟩ => ⟨rs, Same.tp e h1, Paired.imp (fun _ _ q => PlainT.same e q) h2⟩
def TreeAt (K : PySem.W.Frag) (H : Hp) : Tr → V → Prop
  | .words n x, v => ∃ a, v = .ref a ∧ SqT K H a [vW, .int n, .int (x + 2 : Nat)]
  | .sets n m, v => ∃ a, v = .ref a ∧ SqT K H a [vS, .int n, .int m]
  | .listed _ R, v => ∃ a b, v = .ref a ∧ SqT K H a [vL, .ref b] ∧ RowsAt K H b R
  | .prod s t, v => ∃ a y z, v = .ref a ∧ SqT K H a [vP, y, z] ∧ TreeAt K H s y ∧ TreeAt K H t z
theorem TreeAt.same {K : PySem.W.Frag} {H H' : Hp} (e : Same H H') : ∀ {t : Tr} {v : V}, TreeAt K H t v → TreeAt K H' t v
  | .words _ _, _, ⟨a, h1, h2⟩ => ⟨a, h1, Same.tp e h2⟩
  | .sets _ _, _, ⟨a, h1, h2⟩ => ⟨a, h1, Same.tp e h2⟩
  | .listed _ _, _, ⟨a, b, h1, h2, h3⟩ => ⟨a, b, h1, Same.tp e h2, h3.same e⟩
  | .prod _ _, _, ⟨a, y, z, h1, h2, h3, h4⟩ => ⟨a, y, z, h1, Same.tp e h2, TreeAt.same e h3, TreeAt.same e h4⟩
theorem good_parts {a b : Tr} (h : (Tr.prod a b).Good) : a.Good ∧ b.Good ∧ a.kn ≤ 3 ∧ b.kn ≤ 13 ∧ a.pts ≤ 16 ∧ b.Leaf := by
  obtain ⟨⟨n, x, rfl, h1, h2, h3⟩, hb⟩ := h
  exact ⟨⟨h1, by omega, by omega⟩, Tr.good_leaf hb, by show n + 1 ≤ 3; omega, Tr.leaf_kn hb, Tr.small_words h2 h3, hb⟩
section
variable {P : Program} {w : World} {K : PySem.W.Frag} {mg : Str → Option Value} {base : Heap}
/-- nothing is promised -/
theorem has_none {x : Str} {i : Nat} {ps : List Str} {sp : Sp} (F : Fn K mg x i) (hb : ∀ (kV doc pm : Value) (an : Option Addr) (cdv ct : Value) (us : List Value), us.length = ps.length → bindArgs (PySem.W.fnOf x x (defArgs (topS i)) (defBody (topS i)) (defScope (topS i)) .none kV doc pm an cdv ct) ⟨us, []⟩ = pure (ps.zip us))
    (no : ∀ vs H Q E, ¬ sp vs H Q E) : Has P w K mg base x ps 0 sp := by
  obtain ⟨f, fd, F, g⟩ := F
  exact ⟨f, fd, ⟨fun vs H Q E h => (no _ _ _ _ h).elim, fun A outer s H args us vs Q E hr he hb hv h => (no _ _ _ _ h).elim⟩, g, F.kp, F.bindsN hb⟩
/-! ### kinds_of -/
def spKinds (K : PySem.W.Frag) (d : Nat) : Sp := fun vs H Q _ => ∃ t v, t.depth < d ∧ t.Good ∧ vs = [v] ∧ TreeAt K H t v ∧ Q (.int (t.kn : Nat)) H
theorem scKinds : FnScope ["tree"] ["tree"] (defScope (topS 22)) := ⟨rfl, rfl, rfl, by decide +kernel, rfl, by decide +kernel, by decide +kernel⟩
theorem has_kinds (F : Fn K mg "kinds_of" 22) (T : Txt K mg) : ∀ d, Has P w K mg base "kinds_of" ["tree"] d (spKinds K d)
  | 0 => has_none F (fun _ _ _ _ _ _ us hl => match us, hl with | [_], _ => rfl) fun vs H Q E ⟨t, v, h, _⟩ => absurd h (Nat.not_lt_zero _)
  | d + 1 => by
    have C := has_kinds F T d
    refine has_mk F scKinds (fun _ _ _ _ _ _ us hl => match us, hl with | [_], _ => rfl) (fun vs H Q E h => ?_) (fun f cdv A outer s H vs Q E hr h => ?_)
    · obtain ⟨t, v, _, _, rfl, _⟩ := h
      rfl
    · obtain ⟨t, v, hd, hg, rfl, ht, q⟩ := h
      refine ⟨_, pss_cons (ps_if (pt_cmpR op_eq (pe_ix ix_tup (pv 0) pe_int (fun _ _ => rfl)) pe_str (nomark _)) (pss_one (ps_ret (pe_op op_add (pe_ix ix_tup (pv 0) pe_int (fun _ _ => rfl)) pe_int))) pss_nil)
        (pss_cons (ps_if (pt_cmpR op_eq (pe_ix ix_tup (pv 0) pe_int (fun _ _ => rfl)) pe_str (nomark _)) (pss_one (ps_ret (pe_op op_add (pe_ix ix_tup (pv 0) pe_int (fun _ _ => rfl)) pe_int))) pss_nil)
        (pss_cons (ps_if (pt_cmpR op_eq (pe_ix ix_tup (pv 0) pe_int (fun _ _ => rfl)) pe_str (nomark _)) (pss_one (ps_ret (pe_op op_add (pe_callB (cr_maxT rfl) (by rfl) T.max (by decide +kernel) (pa_cons (pe_ix ix_tup (pe_ix ix_tup (pv 0) pe_int (fun _ _ => rfl)) pe_int (fun _ _ => rfl)) pa_nil)) pe_int))) pss_nil)
        (pss_one (ps_ret (pe_op op_mul (pe_h C hr (by rfl) (pa_cons (pe_ix ix_tup (pv 0) pe_int (fun _ _ => rfl)) pa_nil)) (pe_h C hr (by rfl) (pa_cons (pe_ix ix_tup (pv 0) pe_int (fun _ _ => rfl)) pa_nil))))))), ?_⟩
      cases t with
      | words n x =>
        obtain ⟨a, rfl, hS⟩ := ht
        refine ⟨_, rfl, a, _, 0, vW, rfl, rfl, hS, atI_nat (j := 0) rfl, rfl, _, rfl, iteE rfl ?_⟩
        exact ⟨_, rfl, a, _, 1, .int n, rfl, rfl, hS, atI_nat (j := 1) rfl, _, _, rfl, rfl, q⟩
      | sets n m =>
        obtain ⟨a, rfl, hS⟩ := ht
        refine ⟨_, rfl, a, _, 0, vS, rfl, rfl, hS, atI_nat (j := 0) rfl, rfl, _, rfl, iteD nSW ?_⟩
        refine ⟨_, rfl, a, _, 0, vS, rfl, rfl, hS, atI_nat (j := 0) rfl, rfl, _, rfl, iteE rfl ?_⟩
        exact ⟨_, rfl, a, _, 2, .int m, rfl, rfl, hS, atI_nat (j := 2) rfl, _, _, rfl, rfl, q⟩
      | listed e R =>
        obtain ⟨a, b, rfl, hS, rs, hB, hR⟩ := ht
        have ok : TabOk e R := hg
        refine ⟨_, rfl, a, _, 0, vL, rfl, rfl, hS, atI_nat (j := 0) rfl, rfl, _, rfl, iteD nLW ?_⟩
        refine ⟨_, rfl, a, _, 0, vL, rfl, rfl, hS, atI_nat (j := 0) rfl, rfl, _, rfl, iteD nLS ?_⟩
        refine ⟨_, rfl, a, _, 0, vL, rfl, rfl, hS, atI_nat (j := 0) rfl, rfl, _, rfl, iteE rfl ?_⟩
        obtain ⟨r, hr0, hr1⟩ := rows_get hR ok.spos
        refine ⟨_, rfl, a, _, 1, .ref b, rfl, rfl, hS, atI_nat (j := 1) rfl, b, _, 0, .ref r, rfl, rfl, hB, atI_nat (j := 0) hr0, ?_⟩
        have last := ok.occ (e - 1) (by have := ok.dpos; omega)
        refine ⟨r, R.getD 0 [], rfl, hr1.sq, List.length_pos_of_mem last, fun m hm hle => ⟨_, _, rfl, rfl, ?_⟩⟩
        have em : m + 1 = (e : Int) := by
          have h1 := hle _ last
          obtain ⟨y, hy, ey⟩ := List.mem_iff_getElem.mp hm
          have hr0 : R.getD 0 [] ∈ R := by
            rw [List.getD_eq_getElem?_getD, List.getElem?_eq_getElem ok.spos]
            exact List.getElem_mem _
          have h2 := ok.ent 0 ok.spos y (by rw [← ok.rect _ hr0]; exact hy)
          have h3 : at2 R 0 y = m := by
            unfold at2
            rw [List.getD_eq_getElem?_getD, List.getElem?_eq_getElem hy]
            exact ey
          have := ok.dpos
          omega
        show Q (.int (m + 1)) H
        rw [em]
        exact q
      | prod s t =>
        obtain ⟨a, y, z, rfl, hS, h1, h2⟩ := ht
        obtain ⟨g1, g2, k1, k2, _⟩ := good_parts hg
        have hd : max s.depth t.depth + 1 < d + 1 := hd
        refine ⟨_, rfl, a, _, 0, vP, rfl, rfl, hS, atI_nat (j := 0) rfl, rfl, _, rfl, iteD nPW ?_⟩
        refine ⟨_, rfl, a, _, 0, vP, rfl, rfl, hS, atI_nat (j := 0) rfl, rfl, _, rfl, iteD nPS ?_⟩
        refine ⟨_, rfl, a, _, 0, vP, rfl, rfl, hS, atI_nat (j := 0) rfl, rfl, _, rfl, iteD nPL ?_⟩
        refine ⟨_, rfl, a, _, 1, y, rfl, rfl, hS, atI_nat (j := 1) rfl, s, y, by omega, g1, rfl, h1, ?_⟩
        refine ⟨_, rfl, a, _, 2, z, rfl, rfl, hS, atI_nat (j := 2) rfl, t, z, by omega, g2, rfl, h2, ?_⟩
        refine ⟨_, _, rfl, rfl, cmulR (by omega), ?_⟩
        show Q (.int ((s.kn : Int) * (t.kn : Int))) H
        rw [← Int.natCast_mul]
        exact q
end
end K17

set_option Elab.async false
set_option linter.all false
set_option maxRecDepth 100000
set_option maxHeartbeats 4000000
namespace K17
open PySem PySem.Spec PyProof.Rows L2 Mth
theorem tYesI {σ : L2.St} {H : Hp} {Q : Bool → Hp → Prop} (h : Q true H) : tYes σ H Q := h
/-- the first n values of f -/
def vl (n : Nat) (f : Nat → V) : List V := (List.range n).map f
theorem vl_s (n : Nat) (f : Nat → V) : vl (n + 1) f = vl n f ++ [f n] := by
  unfold vl
  rw [List.range_succ, List.map_append]
  rfl
theorem vl_len (n : Nat) (f : Nat → V) : (vl n f).length = n := by
  unfold vl
  rw [List.length_map, List.length_range]
theorem vl_get {n : Nat} {f : Nat → V} {i : Nat} (h : i < n) : (vl n f)[i]? = some (f i) := by
  unfold vl
  rw [List.getElem?_map, List.getElem?_range h]
  rfl
theorem vl_at {n : Nat} {f : Nat → V} {i : Nat} {x : V} (h : (vl n f)[i]? = some x) : i < n ∧ x = f i := by
  have hi : i < n := by
    have := (List.getElem?_eq_some_iff.mp h).1
    rwa [vl_len] at this
  rw [vl_get hi] at h
  exact ⟨hi, (Option.some.inj h).symm⟩
theorem vl_add (f : Nat → V) (a : Nat) : ∀ b : Nat, vl (a + b) f = vl a f ++ vl b fun j => f (a + j)
  | 0 => by
    show vl a f = vl a f ++ []
    rw [List.append_nil]
  | b + 1 => by
    show vl (a + b + 1) f = _
    rw [vl_s, vl_add f a b, vl_s, List.append_assoc]
theorem vl_congr {n : Nat} {f g : Nat → V} (h : ∀ i, i < n → f i = g i) : vl n f = vl n g := by
  unfold vl
  exact List.map_congr_left fun i hi => h i (List.mem_range.mp hi)
theorem Same.put {H H1 : Hp} {D : Addr} {o : HO} (e : Same H H1) (n : H D = none) : Same H (upd H1 D o) := fun b x q => by
  rw [upd_ne (ne_of_none q n)]
  exact e _ _ q
/-- a comprehension's list, as far as it is made -/
def Upto (H : Hp) (D : Addr) (f : Nat → V) (i : Nat) (H' : Hp) : Prop := Same H H' ∧ H' D = some (.lst (vl i f))
theorem Upto.zero {H : Hp} {D : Addr} {f : Nat → V} (n : H D = none) : Upto H D f 0 (upd H D (.lst [])) := ⟨Same.fresh n, upd_same⟩
theorem Upto.more {H H' H2 : Hp} {D : Addr} {f : Nat → V} {i : Nat} (u : Upto H D f i H') (n : H D = none) (e : Same H' H2) : Upto H D f (i + 1) (upd H2 D (.lst (vl i f ++ [f i]))) :=
  ⟨Same.put (u.1.trans e) n, by rw [upd_same, vl_s]⟩
theorem Upto.put {H H' H2 : Hp} {D : Addr} {f : Nat → V} {i : Nat} {y : V} (u : Upto H D f i H') (n : H D = none) (e : Same H' H2) (ey : y = f i) : Upto H D f (i + 1) (upd H2 D (.lst (vl i f ++ [y]))) := by
  rw [ey]
  exact u.more n e
/-- the numbers of the kinds' valencies -/
def vints (t : Tr) : List V := vl t.kn fun i => .int (t.v i : Nat)
section
variable {P : Program} {w : World} {K : PySem.W.Frag} {mg : Str → Option Value} {base : Heap}
def spVal (K : PySem.W.Frag) (d : Nat) : Sp := fun vs H Q _ => ∃ t v, t.depth < d ∧ t.Good ∧ vs = [v] ∧ TreeAt K H t v ∧ ∀ H' p, Same H H' → PlainT H' p (vints t) → Q (.ref p) H'
abbrev nVal : List Str := ["tree", "n", "k", "found", "others", "one", "kind", "other"]
theorem scVal : FnScope nVal ["tree"] (defScope (topS 24)) := ⟨rfl, rfl, rfl, by decide +kernel, rfl, by decide +kernel, by decide +kernel⟩
theorem has_val (F : Fn K mg "valencies_of" 24) (T : Txt K mg) (C1 : Has P w K mg base "choose" ["n", "k"] 1 spChoose) (C2 : Has P w K mg base "power_of" ["base", "many"] 1 spPower) (C3 : ∀ d, Has P w K mg base "kinds_of" ["tree"] d (spKinds K d)) :
    ∀ d, Has P w K mg base "valencies_of" ["tree"] (d + 1) (spVal K d)
  | 0 => (has_none F (fun _ _ _ _ _ _ us hl => match us, hl with | [_], _ => rfl) fun vs H Q E ⟨t, v, h, _⟩ => absurd h (Nat.not_lt_zero _)).mono (Nat.zero_le _)
  | d + 1 => by
    have C := has_val F T C1 C2 C3 d
    refine has_mk F scVal (fun _ _ _ _ _ _ us hl => match us, hl with | [_], _ => rfl) (fun vs H Q E h => ?_) (fun f cdv A outer s H vs Q E hr h => ?_)
    · obtain ⟨t, v, _, _, rfl, _⟩ := h
      rfl
    · obtain ⟨t, v, hd, hg, rfl, ht, q⟩ := h
      have hr1 := hr.mono (show 1 ≤ d + 1 by omega)
      refine ⟨_, pss_cons (ps_if (pt_cmpR op_eq (pxT (K := K) (pv 0) pe_int) pe_str (nomark _))
          (pss_one (ps_ret (pe_callTy call_tupleP (by rfl) T.tuple (by decide +kernel) (pa_cons (pe_lc (own := [("kind", 6)]) (g := gName 6) (by rfl) scVal.nd (pi_range1 rfl T.range (pa_cons (pe_op op_add (pxT (K := K) (pv 0) pe_int) pe_int) pa_nil))
            (blkOk_by (own := [("kind", 6)]) (N := nVal) (sc := defScope (topS 24)) (by decide +kernel)) (fun _ _ _ _ _ => pg_name (i := 6) scVal.nd rfl (Or.inl rfl)) (fun _ _ _ _ _ => pts_nil)
            (fun _ _ _ _ _ => pe_op op_mul (pe_h C1 hr1 (by rfl) (pa_cons (pxT (K := K) (pv 0) pe_int) (pa_cons (pv 6) pa_nil))) (pe_h C2 hr1 (by rfl) (pa_cons (pe_op op_sub (pxT (K := K) (pv 0) pe_int) pe_int) (pa_cons (pv 6) pa_nil))))) pa_nil)))) pss_nil)
        (pss_cons (ps_if (pt_cmpR op_eq (pxT (K := K) (pv 0) pe_int) pe_str (nomark _))
          (pss_cons (ps_asg (pe_tup (pa_cons (pxT (K := K) (pv 0) pe_int) (pa_cons (pxT (K := K) (pv 0) pe_int) pa_nil))) (pg_tup (by rfl) (pgs_cons (pg_name (i := 1) scVal.nd rfl (.inr rfl)) (pgs_cons (pg_name (i := 2) scVal.nd rfl (.inr rfl)) pgs_nil))))
          (pss_one (ps_ret (pe_callTy call_tupleP (by rfl) T.tuple (by decide +kernel) (pa_cons (pe_lc (own := [("kind", 6)]) (g := gName 6) (by rfl) scVal.nd (pi_range1 rfl T.range (pa_cons (pe_op op_add (pv 2) pe_int) pa_nil))
            (blkOk_by (own := [("kind", 6)]) (N := nVal) (sc := defScope (topS 24)) (by decide +kernel)) (fun _ _ _ _ _ => pg_name (i := 6) scVal.nd rfl (Or.inl rfl)) (fun _ _ _ _ _ => pts_nil)
            (fun _ _ _ _ _ => pe_op op_mul (pe_h C1 hr1 (by rfl) (pa_cons (pv 2) (pa_cons (pv 6) pa_nil))) (pe_h C1 hr1 (by rfl) (pa_cons (pe_op op_sub (pv 1) (pv 2)) (pa_cons (pv 6) pa_nil))))) pa_nil))))) pss_nil)
        (pss_cons (ps_if (pt_cmpR op_eq (pxT (K := K) (pv 0) pe_int) pe_str (nomark _))
          (pss_one (ps_ret (pe_callTy call_tupleP (by rfl) T.tuple (by decide +kernel) (pa_cons (pe_lc (own := [("kind", 6)]) (g := gName 6) (by rfl) scVal.nd (pi_range1 rfl T.range (pa_cons (pe_h (C3 (d + 1)) hr (by rfl) (pa_cons (pv 0) pa_nil)) pa_nil))
            (blkOk_by (own := [("kind", 6)]) (N := nVal) (sc := defScope (topS 24)) (by decide +kernel)) (fun _ _ _ _ _ => pg_name (i := 6) scVal.nd rfl (Or.inl rfl)) (fun _ _ _ _ _ => pts_nil)
            (fun _ _ _ _ _ => pe_bmP PySem.F.plainAttrs_tuple PySem.F.slot_tuple_count PySem.F.type_tuple_count (mt_tcountK (K := K)) (pxT (K := K) (pxT (K := K) (pv 0) pe_int) pe_int) (pa_cons (pv 6) pa_nil))) pa_nil)))) pss_nil)
        (pss_cons (ps_set (i := 3) scVal.nd rfl (.inl rfl) (pe_lst pa_nil))
        (pss_cons (ps_set (i := 4) scVal.nd rfl (.inl rfl) (pe_h C hr (by rfl) (pa_cons (pxT (K := K) (pv 0) pe_int) pa_nil)))
        (pss_cons (ps_for PassesOwn.never rfl (pi_tup (pe_h C hr (by rfl) (pa_cons (pxT (K := K) (pv 0) pe_int) pa_nil))) (pg_name (i := 5) scVal.nd rfl (.inr rfl))
          (pss_one (ps_expr (pe_bm PySem.F.plainAttrs_list PySem.F.slot_list_extend PySem.F.type_list_extend mt_extend (pv 3) (pa_cons (pe_lc (own := [("other", 7)]) (g := gName 7) (by rfl) scVal.nd (pi_tup (pv 4))
            (blkOk_by (own := [("other", 7)]) (N := nVal) (sc := defScope (topS 24)) (by decide +kernel)) (fun _ _ _ _ _ => pg_name (i := 7) scVal.nd rfl (Or.inl rfl)) (fun _ _ _ _ _ => pts_nil)
            (fun _ _ _ _ _ => pe_op op_mul (pv 5) (pv 7))) pa_nil)))))
        (pss_one (ps_ret (pe_callTy call_tupleP (by rfl) T.tuple (by decide +kernel) (pa_cons (pv 3) pa_nil))))))))), ?_⟩
      cases t with
      | words n x =>
        obtain ⟨a, rfl, hS⟩ := ht
        obtain ⟨_, hn, hx⟩ := (hg : 1 ≤ n ∧ n ≤ 12 ∧ x ≤ 18)
        refine ⟨_, rfl, a, _, 0, vW, rfl, rfl, hS, atI_nat (j := 0) rfl, rfl, _, rfl, iteE rfl ?_⟩
        refine ⟨_, rfl, a, _, 1, .int n, rfl, rfl, hS, atI_nat (j := 1) rfl, _, _, rfl, rfl, (n : Int) + 1, rfl, by omega, by omega, fun D nD => ?_⟩
        refine lc_range (lo := 0) (n := ((n : Int) + 1).toNat) (Upto H D fun i => .int (vw n x i : Nat)) (Upto.zero nD) (fun i H' hi u => ?_) (fun H' u => ?_)
        · refine ⟨rfl, tYesI ?_⟩
          refine iteT ?_
          refine ⟨_, rfl, a, _, 1, .int n, rfl, rfl, Same.tp u.1 hS, atI_nat (j := 1) rfl, .int (0 + (i : Int)), rfl, n, (i : Int), args2 rfl (by omega), by omega, ?_⟩
          refine ⟨_, rfl, a, _, 2, .int (x + 2 : Nat), rfl, rfl, Same.tp u.1 hS, atI_nat (j := 2) rfl, _, _, rfl, rfl, .int (0 + (i : Int)), rfl, x + 1, i, args2 (by omega) (by omega), by omega, by omega, ?_⟩
          refine ⟨_, _, rfl, rfl, cmulR (pow_small (by omega) (by omega)), _, u.2, by rw [vl_len]; exact small1000 (by omega), ?_⟩
          refine u.put nD (Same.refl _) ?_
          show V.int (((chz n (i : Int) : Nat) : Int) * (((x + 1) ^ i : Nat) : Int)) = .int (vw n x i : Nat)
          rw [chz_nat, ← Int.natCast_mul]
          rfl
        · refine ⟨D, _, rfl, .inl (.inl u.2), fun l o nl pl => q _ l (u.1.trans (Same.fresh nl)) ?_⟩
          rw [show ((n : Int) + 1).toNat = n + 1 by omega] at pl
          exact pl
      | sets n m =>
        obtain ⟨a, rfl, hS⟩ := ht
        obtain ⟨_, hm, h2, h3⟩ := (hg : 1 ≤ m ∧ m ≤ 8 ∧ 2 * m ≤ n ∧ n ≤ 2 * m + 8)
        refine ⟨_, rfl, a, _, 0, vS, rfl, rfl, hS, atI_nat (j := 0) rfl, rfl, _, rfl, iteD nSW ?_⟩
        refine ⟨_, rfl, a, _, 0, vS, rfl, rfl, hS, atI_nat (j := 0) rfl, rfl, _, rfl, iteE rfl ?_⟩
        refine ⟨_, rfl, a, _, 1, .int n, rfl, rfl, hS, atI_nat (j := 1) rfl, _, rfl, a, _, 2, .int m, rfl, rfl, hS, atI_nat (j := 2) rfl, by show 2 ≤ sizeLine; decide, fun z nz => ?_⟩
        refine ⟨z, _, rfl, tpU, rfl, .int n, _, rfl, .int m, [], rfl, rfl, ?_⟩
        have s0 : Same H (upd H z (.tup [.int n, .int m])) := Same.fresh nz
        refine ⟨.int m, rfl, _, _, rfl, rfl, (m : Int) + 1, rfl, by omega, by omega, fun D nD => ?_⟩
        refine lc_range (lo := 0) (n := ((m : Int) + 1).toNat) (Upto _ D fun i => .int (vs n m i : Nat)) (Upto.zero nD) (fun i H' hi u => ?_) (fun H' u => ?_)
        · refine ⟨rfl, tYesI ?_⟩
          refine iteT ?_
          refine ⟨.int m, rfl, .int (0 + (i : Int)), rfl, m, (i : Int), args2 rfl (by omega), by omega, ?_⟩
          refine ⟨.int n, rfl, .int m, rfl, _, _, rfl, rfl, .int (0 + (i : Int)), rfl, n - m, (i : Int), args2 (by omega) (by omega), by omega, ?_⟩
          refine ⟨_, _, rfl, rfl, cmulR (chz_small (by omega)), _, u.2, by rw [vl_len]; exact small1000 (by omega), ?_⟩
          refine u.put nD (Same.refl _) ?_
          show V.int (((chz m (i : Int) : Nat) : Int) * ((chz (n - m) (i : Int) : Nat) : Int)) = .int (vs n m i : Nat)
          rw [chz_nat, chz_nat, ← Int.natCast_mul]
          rfl
        · refine ⟨D, _, rfl, .inl (.inl u.2), fun l o nl pl => q _ l (s0.trans (u.1.trans (Same.fresh nl))) ?_⟩
          rw [show ((m : Int) + 1).toNat = m + 1 by omega] at pl
          exact pl
      | listed e R =>
        obtain ⟨a, b, rfl, hS, rs, hB, hR⟩ := ht
        have ok : TabOk e R := hg
        have he := ok.dle
        refine ⟨_, rfl, a, _, 0, vL, rfl, rfl, hS, atI_nat (j := 0) rfl, rfl, _, rfl, iteD nLW ?_⟩
        refine ⟨_, rfl, a, _, 0, vL, rfl, rfl, hS, atI_nat (j := 0) rfl, rfl, _, rfl, iteD nLS ?_⟩
        refine ⟨_, rfl, a, _, 0, vL, rfl, rfl, hS, atI_nat (j := 0) rfl, rfl, _, rfl, iteE rfl ?_⟩
        obtain ⟨r, hr0, hr1⟩ := rows_get hR ok.spos
        refine ⟨.ref a, rfl, .listed e R, .ref a, hd, hg, rfl, ⟨a, b, rfl, hS, rs, hB, hR⟩, (e : Int), rfl, by omega, by omega, fun D nD => ?_⟩
        refine lc_range (lo := 0) (n := (e : Int).toNat) (Upto H D fun i => .int (vR R i : Nat)) (Upto.zero nD) (fun i H' hi u => ?_) (fun H' u => ?_)
        · refine ⟨rfl, tYesI ?_⟩
          refine iteT ?_
          refine ⟨_, rfl, a, _, 1, .ref b, rfl, rfl, Same.tp u.1 hS, atI_nat (j := 1) rfl, b, _, 0, .ref r, rfl, rfl, Same.tp u.1 hB, atI_nat (j := 0) hr0, ⟨r, _, rfl, hr1.same u.1⟩, ?_⟩
          refine ⟨.int (0 + (i : Int)), rfl, r, R.getD 0 [], 0 + (i : Int), rfl, rfl, (hr1.same u.1).sq, _, u.2, by rw [vl_len]; exact small1000 (by omega), ?_⟩
          refine u.put nD (Same.refl _) ?_
          show V.int (((R.getD 0 []).count (0 + (i : Int)) : Nat) : Int) = .int (vR R i : Nat)
          rw [Int.zero_add]
          rfl
        · refine ⟨D, _, rfl, .inl (.inl u.2), fun l o nl pl => q _ l (u.1.trans (Same.fresh nl)) ?_⟩
          rw [Int.toNat_natCast] at pl
          exact pl
      | prod s t =>
        obtain ⟨a, y, z, rfl, hS, h1, h2⟩ := ht
        obtain ⟨g1, g2, k1, k2, p1, lb⟩ := good_parts hg
        have hd : max s.depth t.depth + 1 < d + 1 := hd
        refine ⟨_, rfl, a, _, 0, vP, rfl, rfl, hS, atI_nat (j := 0) rfl, rfl, _, rfl, iteD nPW ?_⟩
        refine ⟨_, rfl, a, _, 0, vP, rfl, rfl, hS, atI_nat (j := 0) rfl, rfl, _, rfl, iteD nPS ?_⟩
        refine ⟨_, rfl, a, _, 0, vP, rfl, rfl, hS, atI_nat (j := 0) rfl, rfl, _, rfl, iteD nPL ?_⟩
        -- found = []
        refine ⟨Nat.zero_le _, fun o no => ?_⟩
        have s1 : Same H (upd H o (.lst [])) := Same.fresh no
        -- others
        refine ⟨_, rfl, a, _, 2, z, rfl, rfl, Same.tp s1 hS, atI_nat (j := 2) rfl, t, z, by omega, g2, rfl, h2.same s1, fun H2 q2 s2 hq2 => ?_⟩
        -- the loop
        refine ⟨_, rfl, a, _, 1, y, rfl, rfl, Same.tp s2 (Same.tp s1 hS), atI_nat (j := 1) rfl, s, y, by omega, g1, rfl, (h1.same s1).same s2, fun H3 q1 s3 hq1 => ?_⟩
        have so : H3 o = some (.lst []) := s3 _ _ (s2 _ _ upd_same)
        have s03 : Same H H3 := s1.trans (s2.trans s3)
        refine ⟨q1, rfl, ⟨_, hq1.sq⟩, for_tup (K := K) (a := q1) (xs := vints s) (fun i σ H' => ∃ v5, σ = [some (.ref a), none, none, some (.ref o), some (.ref q2), v5, none, none] ∧ Same H H' ∧ PlainT H' q1 (vints s) ∧ PlainT H' q2 (vints t) ∧ H' o = some (.lst (vl (i * t.kn) fun j => .int (Mth.vP t.kn s.v t.v j : Nat))))
          ⟨none, rfl, s03, hq1, hq2.same s3, by rw [Nat.zero_mul]; exact so⟩ (fun i σ H' _ ⟨_, _, _, h, _⟩ => h.sq) ?_ ?_⟩
        · rintro i x σ H' hi ⟨v5, rfl, sH, hp1, hp2, ho⟩
          obtain ⟨li, rfl⟩ := vl_at hi
          refine ⟨.ref o, rfl, .inl ⟨rfl, _, .inl (.inl ho)⟩, .ref q2, rfl, q2, rfl, ⟨_, hp2.sq⟩, fun D nD => ?_⟩
          have nDo : o ≠ D := ne_of_none ho nD
          refine lc_tup (K := K) (a := q2) (xs := vints t) (Upto H' D fun j => .int (s.v i * t.v j : Nat)) (Upto.zero nD) (fun j H4 _ u => (hp2.same u.1).sq) (fun j y H4 hj u => ?_) (fun H4 u => ?_)
          · obtain ⟨hj, rfl⟩ := vl_at hj
            refine ⟨rfl, tYesI ?_⟩
            refine iteT ?_
            refine ⟨_, rfl, _, rfl, _, _, rfl, rfl, cmulL ?_, _, u.2, by rw [vl_len]; exact small1000 (by omega), ?_⟩
            · have := (Tr.laws_good g1).v_le li
              omega
            · refine u.put nD (Same.refl _) ?_
              show V.int (((s.v i : Nat) : Int) * ((t.v j : Nat) : Int)) = .int (s.v i * t.v j : Nat)
              rw [Int.natCast_mul]
          · rw [show (vints t).length = t.kn from vl_len _ _] at u
            have hle : (i + 1) * t.kn ≤ 39 := Nat.le_trans (Nat.mul_le_mul (show i + 1 ≤ 3 by omega) k2) (by decide)
            have hle2 : i * t.kn ≤ 39 := Nat.le_trans (Nat.mul_le_mul_right _ (Nat.le_succ i)) hle
            refine ⟨o, D, _, _, rfl, rfl, u.1 _ _ ho, u.2, by rw [vl_len, vl_len]; exact Nat.le_of_lt (small1000 (by omega)), ?_⟩
            refine ⟨_, rfl, ?_, ?_, ?_, ?_⟩
            · exact Same.put (sH.trans u.1) no
            · obtain ⟨ob, hb, r⟩ := hp1.same u.1
              exact ⟨ob, by rw [upd_ne (ne_of hb (u.1 _ _ ho) (fun z => nomatch z))]; exact hb, r⟩
            · obtain ⟨ob, hb, r⟩ := hp2.same u.1
              exact ⟨ob, by rw [upd_ne (ne_of hb (u.1 _ _ ho) (fun z => nomatch z))]; exact hb, r⟩
            · rw [upd_same, Nat.succ_mul, vl_add]
              congr 3
              refine vl_congr fun j hj => ?_
              unfold Mth.vP
              have e1 : (i * t.kn + j) / t.kn = i := by rw [Nat.mul_comm, Nat.mul_add_div (Nat.lt_of_le_of_lt (Nat.zero_le _) hj), Nat.div_eq_of_lt hj, Nat.add_zero]
              have e2 : (i * t.kn + j) % t.kn = j := by rw [Nat.mul_comm, Nat.mul_add_mod, Nat.mod_eq_of_lt hj]
              rw [e1, e2]
        · rintro σ H' ⟨v5, rfl, sH, hp1, hp2, ho⟩
          rw [show (vints s).length = s.kn from vl_len _ _] at ho
          exact ⟨.ref o, rfl, o, _, rfl, .inl (.inl ho), fun l ob nl pl => q _ l (sH.trans (Same.fresh nl)) pl⟩
end
end K17

set_option Elab.async false
set_option linter.all false
set_option maxRecDepth 100000
set_option maxHeartbeats 4000000
namespace K17
open PySem PySem.Spec PyProof.Rows L2 Mth RZ
/-- a comprehension over zip of two tuples of one length -/
theorem lc_zipT {K : PySem.W.Frag} {a b : Addr} {xs ys : List V} {g : TG} {tt : TT} {te : TE} {vs : List Nat} {σ : L2.St} {H1 : Hp} {D : Addr} {Qd : Hp → Prop} (hl : xs.length = ys.length) (Pv : Nat → Hp → Prop) (h0 : Pv 0 (upd H1 D (.lst []))) (hq : ∀ i H, Pv i H → SqT K H a xs ∧ SqT K H b ys)
    (hs : ∀ (i : Nat) (x y : V) (Z : Addr) (H : Hp), xs[i]? = some x → ys[i]? = some y → Pv i H → H Z = none → g (.ref Z) (wipe σ vs) (upd H Z (.tup [x, y])) fun σ2 H2 => wipe σ2 vs = wipe σ vs ∧ tt σ2 H2 fun c H3 =>
      if c = true then te σ2 H3 fun y H4 => ∃ acc, H4 D = some (.lst acc) ∧ acc.length < sizeLine ∧ Pv (i + 1) (upd H4 D (.lst (acc ++ [y]))) else Pv (i + 1) H3) (hd : ∀ H, Pv xs.length H → Qd H) :
    ∃ W : Nat → Nat → Hp → Prop, (∃ m, W 0 m (upd H1 D (.lst []))) ∧ ∀ i m H, W i m H →
      ((ItzT K a b).stop i H ∧ Qd H) ∨ ((ItzT K a b).go i H ∧ ∃ Nx : Hp → Prop, (∀ H', Nx H' → ∃ m', m' < m ∧ W (i + 1) m' H') ∧ ∀ x H', (ItzT K a b).yld i H x H' → g x (wipe σ vs) H' fun σ2 H2 => wipe σ2 vs = wipe σ vs ∧ tt σ2 H2 fun c H3 =>
        if c = true then te σ2 H3 fun y H4 => ∃ acc, H4 D = some (.lst acc) ∧ acc.length < sizeLine ∧ Nx (upd H4 D (.lst (acc ++ [y]))) else Nx H3) := by
  refine ⟨fun i m H => m = xs.length - i ∧ i ≤ xs.length ∧ Pv i H, ⟨xs.length, rfl, Nat.zero_le _, h0⟩, ?_⟩
  rintro i m H ⟨rfl, hi, p⟩
  obtain ⟨qx, qy⟩ := hq i H p
  by_cases lt : i < xs.length
  · have gx : xs[i]? = some xs[i] := List.getElem?_eq_getElem lt
    have gy : ys[i]? = some (ys[i]'(by rw [← hl]; exact lt)) := List.getElem?_eq_getElem _
    refine .inr ⟨⟨xs, ys, _, _, qx, qy, gx, gy⟩, Pv (i + 1), fun H' p' => ⟨xs.length - (i + 1), by omega, rfl, lt, p'⟩, fun v H' hy => ?_⟩
    obtain ⟨Z, x, y, rfl, nZ, rfl, f1, f2⟩ := hy
    exact hs i x y Z H (f1 _ qx) (f2 _ qy) p nZ
  · exact .inl ⟨⟨xs, ys, qx, qy, .inl (by omega)⟩, hd H (by rw [show xs.length = i by omega]; exact p)⟩
theorem zip_get {α β : Type} : ∀ {l : List α} {m : List β} {i : Nat} {x : α} {y : β}, l[i]? = some x → m[i]? = some y → (l.zip m)[i]? = some (x, y)
  | [], _, i, _, _, h, _ => by simp at h
  | _ :: _, [], i, _, _, _, h => by simp at h
  | a :: l, b :: m, 0, x, y, h1, h2 => by
    have e1 := Option.some.inj h1
    have e2 := Option.some.inj h2
    subst e1 e2
    rfl
  | a :: l, b :: m, i + 1, x, y, h1, h2 => zip_get (l := l) (m := m) (i := i) h1 h2
theorem int_at {l : List Int} {i : Nat} {x : V} (h : (l.map V.int)[i]? = some x) : ∃ z, l[i]? = some z ∧ x = .int z := by
  rw [List.getElem?_map] at h
  cases e : l[i]? with
  | none =>
    rw [e] at h
    cases h
  | some z =>
    rw [e] at h
    exact ⟨z, rfl, (Option.some.inj h).symm⟩
section
variable {P : Program} {w : World} {K : PySem.W.Frag} {mg : Str → Option Value} {base : Heap}
/-! ### number_listed -/
def spListed (K : PySem.W.Frag) : Sp := fun vs H Q _ => ∃ (d : Nat) (R : List (List Int)) (b : Addr) (i j k : Nat), vs = [.ref b, .int i, .int j, .int k] ∧ TabOk d R ∧ RowsAt K H b R ∧ i < d ∧ j < d ∧ k < d ∧ ∀ H', Same H H' → Q (.int (pR R i j k : Nat)) H'
abbrev nListed : List Str := ["rows", "i", "j", "k", "line", "first", "second"]
theorem scListed : FnScope nListed ["rows", "i", "j", "k"] (defScope (topS 27)) := ⟨rfl, rfl, rfl, by decide +kernel, rfl, by decide +kernel, by decide +kernel⟩
theorem has_listed (F : Fn K mg "number_listed" 27) (T : Txt K mg) : Has P w K mg base "number_listed" ["rows", "i", "j", "k"] 1 (spListed K) := by
  refine has_mk F scListed (fun _ _ _ _ _ _ us hl => match us, hl with | [_, _, _, _], _ => rfl) (fun vs H Q E h => ?_) (fun f cdv A outer s H vs Q E hr h => ?_)
  · obtain ⟨d, R, b, i, j, k, rfl, _⟩ := h
    rfl
  · obtain ⟨d, R, b, i, j, k, rfl, ok, ⟨rs, hB, hR⟩, hi, hj, hk, q⟩ := h
    refine ⟨_, pss_cons (ps_set (i := 4) scListed.nd rfl (.inl rfl) (pxT (K := K) (pv 0) (pe_bmP PySem.F.plainAttrs_tuple PySem.F.slot_tuple_index PySem.F.type_tuple_index (mt_tindexK (K := K)) (pxT (K := K) (pv 0) pe_int) (pa_cons (pv 3) pa_nil))))
      (pss_one (ps_ret (pe_callB call_len_seq (by rfl) T.len PySem.boot_len (pa_cons (pe_lc (own := [("first", 5), ("second", 6)]) (g := gTup K 2 (gCons (gName 5) (gCons (gName 6) gNil))) (by rfl) scListed.nd (pi_zipA (by rfl) T.zip (pa_cons (pxT (K := K) (pv 0) pe_int) (pa_cons (pv 4) pa_nil)))
        (blkOk_by (own := [("first", 5), ("second", 6)]) (N := nListed) (sc := defScope (topS 27)) (by decide +kernel))
        (fun _ _ _ _ _ => pg_tup rfl (pgs_cons (pg_name (i := 5) scListed.nd rfl (Or.inl rfl)) (pgs_cons (pg_name (i := 6) scListed.nd rfl (Or.inl rfl)) pgs_nil)))
        (fun _ _ _ _ _ => pts_one (PW.pt (pw_and (pt_cmpR op_eq (pv 5) (pv 1) (nomark _)) (pw_and1 (pt_cmpR op_eq (pv 6) (pv 2) (nomark _)))))) (fun _ _ _ _ _ => pe_bl)) pa_nil)))), ?_⟩
    obtain ⟨r, hr0, hr1⟩ := rows_get hR ok.spos
    have occ := ok.occ k hk
    obtain ⟨ix1, ix2⟩ := idx_at occ
    have l0 : (R.getD 0 []).length = R.length := by
      refine ok.rect _ ?_
      rw [List.getD_eq_getElem?_getD, List.getElem?_eq_getElem ok.spos]
      exact List.getElem_mem _
    rw [l0] at ix1
    obtain ⟨r2, hr2, hr3⟩ := rows_get hR ix1
    have l2 : (R.getD ((R.getD 0 []).idxOf (k : Int)) []).length = R.length := by
      refine ok.rect _ ?_
      rw [List.getD_eq_getElem?_getD, List.getElem?_eq_getElem ix1]
      exact List.getElem_mem _
    refine ⟨.ref b, rfl, .ref b, rfl, b, _, 0, .ref r, rfl, rfl, hB, atI_nat (j := 0) hr0, ⟨r, _, rfl, hr1⟩, .int k, rfl, r, R.getD 0 [], (k : Int), rfl, rfl, hr1.sq, occ, ?_⟩
    refine ⟨b, _, _, .ref r2, rfl, rfl, hB, at_of rfl hr2, ?_⟩
    refine ⟨.ref b, rfl, b, _, 0, .ref r, rfl, rfl, hB, atI_nat (j := 0) hr0, .ref r2, rfl, r, r2, _, _, rfl, .inr ⟨hr1.sq, hr3.sq, fun D nD => ?_⟩⟩
    refine lc_zipT (K := K) (a := r) (b := r2) (xs := (R.getD 0 []).map V.int) (ys := (R.getD ((R.getD 0 []).idxOf (k : Int)) []).map V.int) (by rw [List.length_map, List.length_map, l0, l2])
      (fun x H' => Same H H' ∧ ∃ acc : List V, H' D = some (.lst acc) ∧ acc.length = (((R.getD 0 []).zip (R.getD ((R.getD 0 []).idxOf (k : Int)) [])).take x).countP (fun z => z.1 == (i : Int) && z.2 == (j : Int)))
      ⟨Same.fresh nD, [], upd_same, rfl⟩ (fun x H' ⟨sH, _⟩ => ⟨(hr1.same sH).sq, (hr3.same sH).sq⟩) ?_ ?_
    · rintro x u v Z H' hu hv ⟨sH, acc, eD, ea⟩ nZ
      obtain ⟨u, gu, rfl⟩ := int_at hu
      obtain ⟨v, gv, rfl⟩ := int_at hv
      have hx : x < R.length := by
        rw [← l0]
        exact (List.getElem?_eq_some_iff.mp gu).1
      have nDZ : D ≠ Z := ne_of_none eD nZ
      have eD2 : (upd H' Z (.tup [.int u, .int v])) D = some (.lst acc) := by
        rw [upd_ne nDZ]
        exact eD
      have sH2 : Same H (upd H' Z (.tup [.int u, .int v])) := sH.trans (Same.fresh nZ)
      have hz := zip_get gu gv
      have al : acc.length < sizeLine := by
        rw [ea]
        refine small1000 (Nat.le_trans (List.countP_le_length) (Nat.le_trans (List.length_take_le _ _) ?_))
        have := ok.sle
        omega
      have more : (((R.getD 0 []).zip (R.getD ((R.getD 0 []).idxOf (k : Int)) [])).take (x + 1)).countP (fun z => z.1 == (i : Int) && z.2 == (j : Int)) = acc.length + if (u == (i : Int) && v == (j : Int)) = true then 1 else 0 := by
        rw [List.take_add_one, hz, List.countP_append, ← ea]
        show acc.length + List.countP _ [(u, v)] = _
        rw [List.countP_singleton]
      refine ⟨Z, _, rfl, tpU, rfl, .int u, _, rfl, .int v, [], rfl, rfl, rfl, ?_⟩
      refine ⟨.int u, rfl, .int i, rfl, rfl, _, rfl, ?_⟩
      by_cases e1 : u = (i : Int)
      · refine iteE (by rw [e1]) ?_
        refine ⟨.int v, rfl, .int j, rfl, rfl, _, rfl, ?_⟩
        by_cases e2 : v = (j : Int)
        · refine iteE (by rw [e2]) ?_
          refine ⟨acc, eD2, al, Same.put sH2 nD, acc ++ [.bl true], upd_same, ?_⟩
          rw [more, List.length_append, e1, e2]
          simp
        · refine iteD (fun z => e2 (V.int.inj z)) ?_
          refine ⟨sH2, acc, eD2, ?_⟩
          rw [more, e1]
          simp [e2]
      · rw [decide_eq_false (fun z => e1 (V.int.inj z))]
        refine iteF ?_
        refine iteF ?_
        refine ⟨sH2, acc, eD2, ?_⟩
        rw [more]
        simp [e1]
    · rintro H' ⟨sH, acc, eD, ea⟩
      refine ⟨D, acc, rfl, .inl (.inl (.inl eD)), ?_⟩
      have e : acc.length = pR R i j k := by
        rw [ea, List.length_map, List.take_of_length_le (by rw [List.length_zip, l0, l2]; omega)]
        rfl
      rw [e]
      exact q H' sH
/-! ### number_in -/
def spNum (K : PySem.W.Frag) (d : Nat) : Sp := fun vs H Q _ => ∃ (t : Tr) (v : V) (i j k : Nat), t.depth < d ∧ t.Good ∧ vs = [v, .int i, .int j, .int k] ∧ TreeAt K H t v ∧ i < t.kn ∧ j < t.kn ∧ k < t.kn ∧ ∀ H', Same H H' → Q (.int (t.p i j k : Nat)) H'
abbrev nNum : List Str := ["tree", "i", "j", "k", "many", "first"]
theorem scNum : FnScope nNum ["tree", "i", "j", "k"] (defScope (topS 28)) := ⟨rfl, rfl, rfl, by decide +kernel, rfl, by decide +kernel, by decide +kernel⟩
theorem args4 {v v' : V} {a b c a' b' c' : Int} (hv : v = v') (h1 : a = a') (h2 : b = b') (h3 : c = c') : [v, V.int a, V.int b, V.int c] ++ ([] : List V) = [v', V.int a', V.int b', V.int c'] := by
  rw [hv, h1, h2, h3]
  rfl
theorem has_num (F : Fn K mg "number_in" 28) (T : Txt K mg) (C1 : Has P w K mg base "number_of_words" ["n", "q", "i", "j", "k"] 2 spWords) (C2 : Has P w K mg base "number_of_sets" ["n", "m", "i", "j", "k"] 2 spSets)
    (C3 : Has P w K mg base "number_listed" ["rows", "i", "j", "k"] 1 (spListed K)) (C4 : ∀ d, Has P w K mg base "kinds_of" ["tree"] d (spKinds K d)) : ∀ d, Has P w K mg base "number_in" ["tree", "i", "j", "k"] (d + 2) (spNum K d)
  | 0 => (has_none F (fun _ _ _ _ _ _ us hl => match us, hl with | [_, _, _, _], _ => rfl) fun vs H Q E ⟨t, v, _, _, _, h, _⟩ => absurd h (Nat.not_lt_zero _)).mono (Nat.zero_le _)
  | d + 1 => by
    have C := has_num F T C1 C2 C3 C4 d
    refine has_mk F scNum (fun _ _ _ _ _ _ us hl => match us, hl with | [_, _, _, _], _ => rfl) (fun vs H Q E h => ?_) (fun f cdv A outer s H vs Q E hr h => ?_)
    · obtain ⟨t, v, i, j, k, _, _, rfl, _⟩ := h
      rfl
    · obtain ⟨t, v, i, j, k, hd, hg, rfl, ht, hi, hj, hk, q⟩ := h
      have hr2 := hr.mono (show 2 ≤ d + 2 by omega)
      have hr1 := hr.mono (show 1 ≤ d + 2 by omega)
      have hrd := hr.mono (show d ≤ d + 2 by omega)
      refine ⟨_, pss_cons (ps_if (pt_cmpR op_eq (pxT (K := K) (pv 0) pe_int) pe_str (nomark _)) (pss_one (ps_ret (pe_h C1 hr2 (by rfl) (pa_cons (pxT (K := K) (pv 0) pe_int) (pa_cons (pxT (K := K) (pv 0) pe_int) (pa_cons (pv 1) (pa_cons (pv 2) (pa_cons (pv 3) pa_nil)))))))) pss_nil)
        (pss_cons (ps_if (pt_cmpR op_eq (pxT (K := K) (pv 0) pe_int) pe_str (nomark _)) (pss_one (ps_ret (pe_h C2 hr2 (by rfl) (pa_cons (pxT (K := K) (pv 0) pe_int) (pa_cons (pxT (K := K) (pv 0) pe_int) (pa_cons (pv 1) (pa_cons (pv 2) (pa_cons (pv 3) pa_nil)))))))) pss_nil)
        (pss_cons (ps_if (pt_cmpR op_eq (pxT (K := K) (pv 0) pe_int) pe_str (nomark _)) (pss_one (ps_ret (pe_h C3 hr1 (by rfl) (pa_cons (pxT (K := K) (pv 0) pe_int) (pa_cons (pv 1) (pa_cons (pv 2) (pa_cons (pv 3) pa_nil))))))) pss_nil)
        (pss_cons (ps_set (i := 4) scNum.nd rfl (.inl rfl) (pe_h (C4 d) hrd (by rfl) (pa_cons (pxT (K := K) (pv 0) pe_int) pa_nil)))
        (pss_cons (ps_set (i := 5) scNum.nd rfl (.inl rfl) (pe_h C hr (by rfl) (pa_cons (pxT (K := K) (pv 0) pe_int) (pa_cons (pe_op op_fdiv (pv 1) (pv 4)) (pa_cons (pe_op op_fdiv (pv 2) (pv 4)) (pa_cons (pe_op op_fdiv (pv 3) (pv 4)) pa_nil))))))
        (pss_one (ps_ret (pe_op op_mul (pv 5) (pe_h C hr (by rfl) (pa_cons (pxT (K := K) (pv 0) pe_int) (pa_cons (pe_op op_mod (pv 1) (pv 4)) (pa_cons (pe_op op_mod (pv 2) (pv 4)) (pa_cons (pe_op op_mod (pv 3) (pv 4)) pa_nil)))))))))))), ?_⟩
      cases t with
      | words n x =>
        obtain ⟨a, rfl, hS⟩ := ht
        obtain ⟨_, hn, hx⟩ := (hg : 1 ≤ n ∧ n ≤ 12 ∧ x ≤ 18)
        have hi : i < n + 1 := hi
        have hj : j < n + 1 := hj
        have hk : k < n + 1 := hk
        refine ⟨_, rfl, a, _, 0, vW, rfl, rfl, hS, atI_nat (j := 0) rfl, rfl, _, rfl, iteE rfl ?_⟩
        exact ⟨_, rfl, a, _, 1, .int n, rfl, rfl, hS, atI_nat (j := 1) rfl, _, rfl, a, _, 2, .int (x + 2 : Nat), rfl, rfl, hS, atI_nat (j := 2) rfl, .int i, rfl, .int j, rfl, .int k, rfl, n, x, i, j, k, rfl, hn, hx, by omega, by omega, by omega, q H (Same.refl H)⟩
      | sets n m =>
        obtain ⟨a, rfl, hS⟩ := ht
        obtain ⟨_, hm, h2, h3⟩ := (hg : 1 ≤ m ∧ m ≤ 8 ∧ 2 * m ≤ n ∧ n ≤ 2 * m + 8)
        have hi : i < m + 1 := hi
        have hj : j < m + 1 := hj
        have hk : k < m + 1 := hk
        refine ⟨_, rfl, a, _, 0, vS, rfl, rfl, hS, atI_nat (j := 0) rfl, rfl, _, rfl, iteD nSW ?_⟩
        refine ⟨_, rfl, a, _, 0, vS, rfl, rfl, hS, atI_nat (j := 0) rfl, rfl, _, rfl, iteE rfl ?_⟩
        exact ⟨_, rfl, a, _, 1, .int n, rfl, rfl, hS, atI_nat (j := 1) rfl, _, rfl, a, _, 2, .int m, rfl, rfl, hS, atI_nat (j := 2) rfl, .int i, rfl, .int j, rfl, .int k, rfl, n, m, i, j, k, rfl, by omega, h2, by omega, by omega, by omega, q H (Same.refl H)⟩
      | listed e R =>
        obtain ⟨a, b, rfl, hS, hB⟩ := ht
        refine ⟨_, rfl, a, _, 0, vL, rfl, rfl, hS, atI_nat (j := 0) rfl, rfl, _, rfl, iteD nLW ?_⟩
        refine ⟨_, rfl, a, _, 0, vL, rfl, rfl, hS, atI_nat (j := 0) rfl, rfl, _, rfl, iteD nLS ?_⟩
        refine ⟨_, rfl, a, _, 0, vL, rfl, rfl, hS, atI_nat (j := 0) rfl, rfl, _, rfl, iteE rfl ?_⟩
        exact ⟨_, rfl, a, _, 1, .ref b, rfl, rfl, hS, atI_nat (j := 1) rfl, .int i, rfl, .int j, rfl, .int k, rfl, e, R, b, i, j, k, rfl, hg, hB, hi, hj, hk, q⟩
      | prod s t =>
        obtain ⟨a, y, z, rfl, hS, h1, h2⟩ := ht
        obtain ⟨g1, g2, k1, k2, p1, lb⟩ := good_parts hg
        have hd : max s.depth t.depth + 1 < d + 1 := hd
        have hi : i < s.kn * t.kn := hi
        have hj : j < s.kn * t.kn := hj
        have hk : k < s.kn * t.kn := hk
        have tp := (Tr.laws_good g2).pos
        refine ⟨_, rfl, a, _, 0, vP, rfl, rfl, hS, atI_nat (j := 0) rfl, rfl, _, rfl, iteD nPW ?_⟩
        refine ⟨_, rfl, a, _, 0, vP, rfl, rfl, hS, atI_nat (j := 0) rfl, rfl, _, rfl, iteD nPS ?_⟩
        refine ⟨_, rfl, a, _, 0, vP, rfl, rfl, hS, atI_nat (j := 0) rfl, rfl, _, rfl, iteD nPL ?_⟩
        refine ⟨_, rfl, a, _, 2, z, rfl, rfl, hS, atI_nat (j := 2) rfl, t, z, by omega, g2, rfl, h2, ?_⟩
        have cd : CDiv (i : Int) (t.kn : Int) ∧ CDiv (j : Int) (t.kn : Int) ∧ CDiv (k : Int) (t.kn : Int) := ⟨⟨by omega, by omega⟩, ⟨by omega, by omega⟩, ⟨by omega, by omega⟩⟩
        refine ⟨_, rfl, a, _, 1, y, rfl, rfl, hS, atI_nat (j := 1) rfl, .int i, rfl, .int t.kn, rfl, _, _, rfl, rfl, cd.1, .int j, rfl, .int t.kn, rfl, _, _, rfl, rfl, cd.2.1, .int k, rfl, .int t.kn, rfl, _, _, rfl, rfl, cd.2.2, ?_⟩
        refine ⟨s, y, i / t.kn, j / t.kn, k / t.kn, by omega, g1, args4 rfl (Int.natCast_ediv _ _).symm (Int.natCast_ediv _ _).symm (Int.natCast_ediv _ _).symm, h1, div_lt_of hi, div_lt_of hj, div_lt_of hk, fun H1 s1 => ?_⟩
        have hS1 := Same.tp s1 hS
        refine ⟨_, rfl, _, rfl, a, _, 2, z, rfl, rfl, hS1, atI_nat (j := 2) rfl, .int i, rfl, .int t.kn, rfl, _, _, rfl, rfl, cd.1.1, .int j, rfl, .int t.kn, rfl, _, _, rfl, rfl, cd.1.1, .int k, rfl, .int t.kn, rfl, _, _, rfl, rfl, cd.1.1, ?_⟩
        refine ⟨t, z, i % t.kn, j % t.kn, k % t.kn, by omega, g2, args4 rfl (Int.natCast_emod _ _).symm (Int.natCast_emod _ _).symm (Int.natCast_emod _ _).symm, h2.same s1, mod_lt_of hi, mod_lt_of hj, mod_lt_of hk, fun H2 s2 => ?_⟩
        refine ⟨_, _, rfl, rfl, cmulL ?_, ?_⟩
        · have := (Tr.laws_good g1).p_le (div_lt_of hi) (div_lt_of hj) (div_lt_of hk)
          omega
        · show Q (.int ((s.p (i / t.kn) (j / t.kn) (k / t.kn) : Nat) * (t.p (i % t.kn) (j % t.kn) (k % t.kn) : Nat))) H2
          rw [← Int.natCast_mul]
          exact q H2 (s1.trans s2)
end
end K17

set_option Elab.async false
set_option linter.all false
set_option maxRecDepth 100000
set_option maxHeartbeats 4000000
namespace K17
open PySem PySem.Spec PyProof.Rows L2 Mth RZ
/-! ### tallies of pairs of ints -/
abbrev kp (i j : Int) : List Key := [.inl i, .inl j]
def cn (zs : List (Int × Int)) (i j : Int) : Nat := zs.countP fun z => z.1 == i && z.2 == j
structure IsTally (kvs : List (List Key × V)) (zs : List (Int × Int)) : Prop where
  nd : (kvs.map (·.1)).Nodup
  ks : ∀ p ∈ kvs, ∃ i j, p.1 = kp i j
  val : ∀ i j, valV kvs (kp i j) = if cn zs i j = 0 then none else some (.int (cn zs i j : Nat))
theorem kp_inj {a b i j : Int} : kp a b = kp i j ↔ a = i ∧ b = j := by
  constructor
  · intro h
    injection h with h1 h2
    injection h2 with h2 _
    exact ⟨Sum.inl.inj h1, Sum.inl.inj h2⟩
  · rintro ⟨rfl, rfl⟩
    rfl
section
variable {κ : Type} [DecidableEq κ]
theorem keys_putK {kvs : List (κ × V)} {k : κ} {v : V} (h : (valV kvs k).isSome = true) : (putK kvs k v).map (·.1) = kvs.map (·.1) := by
  unfold putK
  rw [valV_any, if_pos h, List.map_map]
  refine List.map_congr_left fun p _ => ?_
  show (if p.1 = k then (p.1, v) else p).1 = p.1
  by_cases e : p.1 = k
  · rw [if_pos e]
  · rw [if_neg e]
theorem nd_put (kvs : List (κ × V)) (k : κ) (v : V) (hn : (kvs.map (·.1)).Nodup) : ((putK kvs k v).map (·.1)).Nodup := by
  cases e : valV kvs k with
  | none => exact nd_putK v hn e
  | some x =>
    rw [keys_putK (by rw [e]; rfl)]
    exact hn
theorem mem_putK {kvs : List (κ × V)} {k : κ} {v : V} {p : κ × V} (h : p ∈ putK kvs k v) : p.1 = k ∨ p ∈ kvs := by
  unfold putK at h
  split at h
  · obtain ⟨q, hq, e⟩ := List.mem_map.mp h
    by_cases c : q.1 = k
    · rw [if_pos c] at e
      rw [← e]
      exact .inl c
    · rw [if_neg c] at e
      rw [← e]
      exact .inr hq
  · rcases List.mem_append.mp h with m | m
    · exact .inr m
    · rw [List.mem_singleton.mp m]
      exact .inl rfl
theorem len_sub : ∀ {l m : List κ}, l.Nodup → (∀ x ∈ l, x ∈ m) → l.length ≤ m.length
  | [], _, _, _ => Nat.zero_le _
  | x :: l, m, h, s => by
    obtain ⟨h1, h2⟩ := List.nodup_cons.mp h
    have hx := s x List.mem_cons_self
    have ih := len_sub (m := m.erase x) h2 fun y hy => by
      have ne : y ≠ x := fun e => h1 (e ▸ hy)
      exact (List.mem_erase_of_ne ne).mpr (s y (List.mem_cons_of_mem _ hy))
    rw [List.length_erase_of_mem hx] at ih
    have := List.length_pos_of_mem hx
    show l.length + 1 ≤ m.length
    omega
theorem val_mem {kvs : List (κ × V)} {k : κ} {v : V} (h : valV kvs k = some v) : (k, v) ∈ kvs := by
  unfold valV at h
  obtain ⟨x, hx, e⟩ := Option.map_eq_some_iff.mp h
  have hk : x.1 = k := of_decide_eq_true (List.find?_some (p := fun x : κ × V => decide (x.1 = k)) hx)
  have := List.mem_of_find?_eq_some hx
  rw [← hk, ← e]
  exact this
end
theorem IsTally.nil : IsTally [] [] := ⟨List.nodup_nil, fun p h => by simp at h, fun i j => rfl⟩
theorem IsTally.put {kvs : List (List Key × V)} {zs : List (Int × Int)} (h : IsTally kvs zs) (a b : Int) : IsTally (putK kvs (kp a b) (.int ((cn zs a b : Nat) + 1))) (zs ++ [(a, b)]) := by
  refine ⟨nd_put _ _ _ h.nd, fun p hp => ?_, fun i j => ?_⟩
  · rcases mem_putK hp with e | m
    · exact ⟨a, b, e⟩
    · exact h.ks p m
  · have e : cn (zs ++ [(a, b)]) i j = cn zs i j + if (a == i && b == j) = true then 1 else 0 := by
      unfold cn
      rw [List.countP_append, List.countP_singleton]
    rw [valV_put, h.val, e]
    by_cases c : kp i j = kp a b
    · obtain ⟨rfl, rfl⟩ := kp_inj.mp c
      rw [if_pos rfl]
      simp
    · rw [if_neg c]
      have : (a == i && b == j) = false := by
        by_cases e1 : a = i
        · by_cases e2 : b = j
          · exact absurd (kp_inj.mpr ⟨e1.symm, e2.symm⟩) c
          · simp [e2]
        · simp [e1]
      rw [this]
      rfl
/-- two tallies that count alike hold the same -/
theorem IsTally.alike {ks ls : List (List Key × V)} {zs ys : List (Int × Int)} (h : IsTally ks zs) (g : IsTally ls ys) (e : ∀ i j, cn zs i j = cn ys i j) : ks.length = ls.length ∧ ∀ p ∈ ks, valV ls p.1 = some p.2 ∧ flatB p.2 = true := by
  have half : ∀ {ks ls : List (List Key × V)} {zs ys : List (Int × Int)}, IsTally ks zs → IsTally ls ys → (∀ i j, cn zs i j = cn ys i j) → ∀ p ∈ ks, valV ls p.1 = some p.2 ∧ flatB p.2 = true := by
    intro ks ls zs ys h g e p hp
    obtain ⟨i, j, ep⟩ := h.ks p hp
    have v1 := val_nodup h.nd p hp
    rw [ep, h.val] at v1
    rw [ep, g.val, ← e]
    by_cases c : cn zs i j = 0
    · rw [if_pos c] at v1
      cases v1
    · rw [if_neg c] at v1 ⊢
      refine ⟨v1, ?_⟩
      rw [← Option.some.inj v1]
      rfl
  have sub : ∀ {ks ls : List (List Key × V)}, (∀ p ∈ ks, valV ls p.1 = some p.2 ∧ flatB p.2 = true) → ∀ k ∈ ks.map (·.1), k ∈ ls.map (·.1) := by
    intro ks ls hh k hk
    obtain ⟨p, hp, rfl⟩ := List.mem_map.mp hk
    exact List.mem_map.mpr ⟨_, val_mem (hh p hp).1, rfl⟩
  have a := half h g e
  have b := half g h fun i j => (e i j).symm
  have l1 := len_sub h.nd (sub a)
  have l2 := len_sub g.nd (sub b)
  rw [List.length_map, List.length_map] at l1 l2
  exact ⟨by omega, a⟩
/-- the pairs of two rows -/
def zr (R : List (List Int)) (x y : Nat) : List (Int × Int) := (R.getD x []).zip (R.getD y [])
theorem row_len {d : Nat} {R : List (List Int)} (ok : TabOk d R) {x : Nat} (hx : x < R.length) : (R.getD x []).length = R.length := by
  refine ok.rect _ ?_
  rw [List.getD_eq_getElem?_getD, List.getElem?_eq_getElem hx]
  exact List.getElem_mem _
theorem ent_row {d : Nat} {R : List (List Int)} (ok : TabOk d R) {x : Nat} (hx : x < R.length) {z : Int} (hz : z ∈ R.getD x []) : 0 ≤ z ∧ z < d := by
  obtain ⟨y, hy, ey⟩ := List.mem_iff_getElem.mp hz
  have h2 := ok.ent x hx y (by rw [← row_len ok hx]; exact hy)
  have h3 : at2 R x y = z := by
    unfold at2
    rw [List.getD_eq_getElem?_getD, List.getElem?_eq_getElem hy]
    exact ey
  rw [h3] at h2
  exact h2
/-- rows at cells of one kind count alike -/
theorem cn_alike {d : Nat} {R : List (List Int)} (ok : TabOk d R) {x y x' y' : Nat} (hx : x < R.length) (hy : y < R.length) (hx' : x' < R.length) (hy' : y' < R.length) (e : at2 R x y = at2 R x' y') (i j : Int) : cn (zr R x y) i j = cn (zr R x' y') i j := by
  by_cases hi : 0 ≤ i ∧ i < d
  · by_cases hj : 0 ≤ j ∧ j < d
    · obtain ⟨a, rfl⟩ := Int.eq_ofNat_of_zero_le hi.1
      obtain ⟨b, rfl⟩ := Int.eq_ofNat_of_zero_le hj.1
      have h1 := ok.cnt x hx y hy a (by omega) b (by omega)
      have h2 := ok.cnt x' hx' y' hy' a (by omega) b (by omega)
      rw [← e, ← h1] at h2
      exact h2.symm
    · have z : ∀ x y, x < R.length → y < R.length → cn (zr R x y) i j = 0 := fun x y hx hy => by
        refine List.countP_eq_zero.mpr fun p hp hc => hj ?_
        have e2 : p.2 = j := by simpa using (Bool.and_eq_true_iff.mp hc).2
        rw [← e2]
        exact ent_row ok hy (List.of_mem_zip hp).2
      rw [z x y hx hy, z x' y' hx' hy']
  · have z : ∀ x y, x < R.length → y < R.length → cn (zr R x y) i j = 0 := fun x y hx hy => by
      refine List.countP_eq_zero.mpr fun p hp hc => hi ?_
      have e2 : p.1 = i := by simpa using (Bool.and_eq_true_iff.mp hc).1
      rw [← e2]
      exact ent_row ok hx (List.of_mem_zip hp).1
    rw [z x y hx hy, z x' y' hx' hy']
section
variable {P : Program} {w : World} {K : PySem.W.Frag} {mg : Str → Option Value} {base : Heap}
/-! ### ways_of -/
def spWays (K : PySem.W.Frag) : Sp := fun vs H Q _ => ∃ (d : Nat) (R : List (List Int)) (b : Addr) (x y : Nat), vs = [.ref b, .int x, .int y] ∧ TabOk d R ∧ RowsAt K H b R ∧ x < R.length ∧ y < R.length ∧
  ∀ H' p kvs, Same H H' → H p = none → H' p = some (.dT kvs) → IsTally kvs (zr R x y) → Q (.ref p) H'
abbrev nWays : List Str := ["rows", "x", "y", "found", "first", "second"]
theorem scWays : FnScope nWays ["rows", "x", "y"] (defScope (topS 17)) := ⟨rfl, rfl, rfl, by decide +kernel, rfl, by decide +kernel, by decide +kernel⟩
theorem has_ways (F : Fn K mg "ways_of" 17) (T : Txt K mg) : Has P w K mg base "ways_of" ["rows", "x", "y"] 1 (spWays K) := by
  refine has_mk F scWays (fun _ _ _ _ _ _ us hl => match us, hl with | [_, _, _], _ => rfl) (fun vs H Q E h => ?_) (fun f cdv A outer s H vs Q E hr h => ?_)
  · obtain ⟨d, R, b, x, y, rfl, _⟩ := h
    rfl
  · obtain ⟨d, R, b, x, y, rfl, ok, ⟨rs, hB, hR⟩, hx, hy, q⟩ := h
    have hu := hu_of hr
    refine ⟨_, pss_cons (ps_set (i := 3) scWays.nd rfl (.inl rfl) pe_dnewT)
      (pss_cons (ps_for PassesOwn.never rfl (pi_zipA (by rfl) T.zip (pa_cons (pxT (K := K) (pv 0) (pv 1)) (pa_cons (pxT (K := K) (pv 0) (pv 2)) pa_nil)))
          (pg_tup rfl (pgs_cons (pg_name (i := 4) scWays.nd rfl (.inl rfl)) (pgs_cons (pg_name (i := 5) scWays.nd rfl (.inl rfl)) pgs_nil)))
        (pss_one (ps_dput hu (pv 3) (pe_tup (pa_cons (pv 4) (pa_cons (pv 5) pa_nil))) (pe_op op_add (pe_dget2 hu (pv 3) (pe_tup (pa_cons (pv 4) (pa_cons (pv 5) pa_nil))) pe_int ⟨rfl, rfl, rfl, rfl⟩) pe_int) rfl)))
      (pss_one (ps_ret (pv 3)))), ?_⟩
    obtain ⟨rx, hx0, hx1⟩ := rows_get hR hx
    obtain ⟨ry, hy0, hy1⟩ := rows_get hR hy
    intro o no
    have s0 : Same H (upd H o (.dT [])) := Same.fresh no
    refine ⟨.ref b, rfl, .int x, rfl, b, _, _, .ref rx, rfl, rfl, Same.tp s0 hB, at_of rfl hx0, .ref b, rfl, .int y, rfl, b, _, _, .ref ry, rfl, rfl, Same.tp s0 hB, at_of rfl hy0, rx, ry, _, _, rfl, .inr ⟨(hx1.same s0).sq, (hy1.same s0).sq, ?_⟩⟩
    refine for_zipT (K := K) (a := rx) (b := ry) (xs := (R.getD x []).map V.int) (ys := (R.getD y []).map V.int) (by rw [List.length_map, List.length_map, row_len ok hx, row_len ok hy])
      (fun i σ H' => ∃ v4 v5 kvs, σ = [some (.ref b), some (.int x), some (.int y), some (.ref o), v4, v5] ∧ Same H H' ∧ H' o = some (.dT kvs) ∧ IsTally kvs ((zr R x y).take i) ∧ kvs.length ≤ i) ⟨none, none, [], rfl, s0, upd_same, IsTally.nil, Nat.le_refl _⟩
      (fun i σ H' ⟨_, _, _, _, sH, _⟩ => ⟨(hx1.same sH).sq, (hy1.same sH).sq⟩) ?_ ?_
    · rintro i u v Z σ H' hu' hv' ⟨v4, v5, kvs, rfl, sH, eo, ht, hk⟩ nZ
      obtain ⟨u, gu, rfl⟩ := int_at hu'
      obtain ⟨v, gv, rfl⟩ := int_at hv'
      have hi : i < R.length := by
        rw [← row_len ok hx]
        exact (List.getElem?_eq_some_iff.mp gu).1
      have hz := zip_get gu gv
      have sle := ok.sle
      refine ⟨Z, _, rfl, tpU, rfl, .int u, _, rfl, .int v, [], rfl, rfl, ?_⟩
      -- found.get((first, second), 0) + 1
      have noZ : o ≠ Z := ne_of_none eo nZ
      have eZ : (upd H' Z (.tup [.int u, .int v])) o = some (.dT kvs) := by
        rw [upd_ne noZ]
        exact eo
      refine ⟨.ref o, rfl, o, rfl, .inr ⟨kvs, .inl eZ⟩, .int u, rfl, .int v, rfl, by show 2 ≤ sizeLine; decide, fun k1 nk1 => ?_⟩
      have e1 : (upd (upd H' Z (.tup [.int u, .int v])) k1 (.tup [.int u, .int v])) o = some (.dT kvs) := by
        rw [upd_ne (ne_of_none eZ nk1)]
        exact eZ
      refine ⟨_, DGet.t (k := kp u v) e1 upd_same, ?_⟩
      have gv' : (valV kvs (kp u v)).getD (.int 0) = .int (cn ((zr R x y).take i) u v : Nat) := by
        rw [ht.val]
        by_cases c : cn ((zr R x y).take i) u v = 0
        · rw [if_pos c, c]
          rfl
        · rw [if_neg c]
          rfl
      rw [gv']
      refine ⟨_, _, rfl, rfl, .ref o, rfl, .int u, rfl, .int v, rfl, by show 2 ≤ sizeLine; decide, fun k2 nk2 => ?_⟩
      have e2 : (upd (upd (upd H' Z (.tup [.int u, .int v])) k1 (.tup [.int u, .int v])) k2 (.tup [.int u, .int v])) o = some (.dT kvs) := by
        rw [upd_ne (ne_of_none e1 nk2)]
        exact e1
      refine ⟨o, _, rfl, DPut.t (k := kp u v) e2 upd_same (small1000 (by omega)), ?_⟩
      refine ⟨_, _, _, rfl, ?_, upd_same, ?_, ?_⟩
      · exact Same.put (sH.trans ((Same.fresh nZ).trans ((Same.fresh nk1).trans (Same.fresh nk2)))) no
      · rw [List.take_add_one, show (zr R x y)[i]? = some (u, v) from hz]
        exact ht.put u v
      · have := length_putK kvs (kp u v) (.int ((cn ((zr R x y).take i) u v : Nat) + 1))
        exact Nat.le_trans this (by omega)
    · rintro σ H' ⟨v4, v5, kvs, rfl, sH, eo, ht, hk⟩
      refine ⟨.ref o, rfl, q H' o kvs sH no eo ?_⟩
      rw [List.length_map, List.take_of_length_le (by unfold zr; rw [List.length_zip, row_len ok hx, row_len ok hy]; omega)] at ht
      exact ht
end
end K17

set_option Elab.async false
set_option linter.all false
set_option maxRecDepth 100000
set_option maxHeartbeats 4000000
namespace K17
open PySem PySem.Spec PyProof.Rows L2 Mth RZ
/-! ### lists of ints compared -/
theorem dpInts {K : PySem.W.Frag} {H : Hp} : ∀ ns : List Int, DpAll K H (ns.map V.int) (ns.map PyData.int)
  | [] => .nil
  | n :: r => .cons (.int n) (dpInts r)
theorem layInts : ∀ ns : List Int, PyData.canLayAll0 (ns.map PyData.int) = true
  | [] => rfl
  | n :: r => by
    show (PyData.canLay0 (.int n) && PyData.canLayAll0 (r.map PyData.int)) = true
    rw [layInts r]
    rfl
theorem depInts : ∀ ns : List Int, PyData.depthAll (ns.map PyData.int) = 0
  | [] => rfl
  | n :: r => by
    show max (PyData.depth (.int n)) (PyData.depthAll (r.map PyData.int)) = 0
    rw [depInts r]
    rfl
abbrev dI (ns : List Int) : PyData := .list (ns.map PyData.int)
theorem shI (ns : List Int) : SeqAt.shaped (dI ns) = true := by
  unfold SeqAt.shaped
  rw [show PyData.canLay0 (dI ns) = PyData.canLayAll0 (ns.map PyData.int) from rfl, layInts, show PyData.depth (dI ns) = PyData.depthAll (ns.map PyData.int) + 1 from rfl, depInts]
  rfl
theorem eqvI (ns : List Int) : PyData.eqv (dI ns) (dI ns) = true := SeqAt.eqv_refl _ (layInts ns)
theorem dpL {K : PySem.W.Frag} {H : Hp} {a : Addr} {ns : List Int} (h : SqL K H a (ns.map V.int)) : Dp K H (.ref a) (dI ns) := .lst h (dpInts ns)
/-! ### the kinds of a table -/
structure DK (kvs : List (Key × V)) (zs : List Int) : Prop where
  nd : (kvs.map (·.1)).Nodup
  ks : ∀ p ∈ kvs, ∃ z ∈ zs, p.1 = .inl z
  all : ∀ z ∈ zs, (Sum.inl z : Key) ∈ kvs.map (·.1)
theorem DK.nil : DK [] [] := ⟨List.nodup_nil, fun p h => by simp at h, fun z h => by simp at h⟩
theorem keys_in_put {kvs : List (Key × V)} {k j : Key} {v : V} (h : j = k ∨ j ∈ kvs.map (·.1)) : j ∈ (putK kvs k v).map (·.1) := by
  have e : (valV (putK kvs k v) j).isSome = true := by
    rw [valV_put]
    by_cases c : j = k
    · rw [if_pos c]
      rfl
    · rw [if_neg c]
      rcases h with h | h
      · exact absurd h c
      · obtain ⟨p, hp, e⟩ := List.mem_map.mp h
        rw [← valV_any]
        exact List.any_eq_true.mpr ⟨p, hp, decide_eq_true e⟩
  obtain ⟨x, hx⟩ := Option.isSome_iff_exists.mp e
  exact List.mem_map.mpr ⟨_, val_mem hx, rfl⟩
theorem DK.put {kvs : List (Key × V)} {zs : List Int} (h : DK kvs zs) (a : Int) (v : V) : DK (putK kvs (.inl a) v) (zs ++ [a]) := by
  refine ⟨nd_put _ _ _ h.nd, fun p hp => ?_, fun z hz => ?_⟩
  · rcases mem_putK hp with e | m
    · exact ⟨a, List.mem_append_right _ List.mem_cons_self, e⟩
    · obtain ⟨z, hz, e⟩ := h.ks p m
      exact ⟨z, List.mem_append_left _ hz, e⟩
  · refine keys_in_put ?_
    rcases List.mem_append.mp hz with m | m
    · exact .inr (h.all z m)
    · exact .inl (by rw [List.mem_singleton.mp m])
theorem keys_ints : ∀ {kvs : List (Key × V)}, (∀ p ∈ kvs, ∃ z : Int, p.1 = .inl z) → ∃ ns : List Int, kvs.map (·.1) = ns.map Sum.inl
  | [], _ => ⟨[], rfl⟩
  | p :: r, h => by
    obtain ⟨z, e⟩ := h p List.mem_cons_self
    obtain ⟨ns, e2⟩ := keys_ints fun q hq => h q (List.mem_cons_of_mem _ hq)
    refine ⟨z :: ns, ?_⟩
    show p.1 :: r.map (·.1) = _
    rw [e, e2]
    rfl
theorem DK.ints {kvs : List (Key × V)} {zs : List Int} (h : DK kvs zs) : ∃ ns : List Int, (kvs.map fun kv => kV kv.1) = ns.map V.int ∧ ns.Nodup ∧ ∀ z, z ∈ ns ↔ z ∈ zs := by
  obtain ⟨ns, e⟩ := keys_ints fun p hp => (h.ks p hp).imp fun z q => q.2
  refine ⟨ns, ?_, ?_, fun z => ⟨fun hz => ?_, fun hz => ?_⟩⟩
  · have e2 : (kvs.map (·.1)).map kV = (ns.map Sum.inl).map kV := by rw [e]
    rw [List.map_map, List.map_map] at e2
    exact e2
  · have nd := h.nd
    rw [e] at nd
    exact List.Pairwise.imp (fun {a b} q z => q (by rw [z])) (List.pairwise_map.mp nd)
  · have m : (Sum.inl z : Key) ∈ kvs.map (·.1) := by
      rw [e]
      exact List.mem_map.mpr ⟨z, hz, rfl⟩
    obtain ⟨p, hp, ep⟩ := List.mem_map.mp m
    obtain ⟨y, hy, ey⟩ := h.ks p hp
    rw [ep] at ey
    rw [Sum.inl.inj ey]
    exact hy
  · have m := h.all z hz
    rw [e] at m
    obtain ⟨y, hy, ey⟩ := List.mem_map.mp m
    rw [← Sum.inl.inj ey]
    exact hy
def upto (d : Nat) : List Int := (List.range d).map fun (i : Nat) => (i : Int)
theorem upto_mem {d : Nat} {z : Int} : z ∈ upto d ↔ 0 ≤ z ∧ z < d := by
  unfold upto
  rw [List.mem_map]
  constructor
  · rintro ⟨i, hi, rfl⟩
    have := List.mem_range.mp hi
    omega
  · rintro ⟨h0, h1⟩
    exact ⟨z.toNat, List.mem_range.mpr (by omega), by omega⟩
theorem sorted_upto {d : Nat} {ns ns' : List Int} (hn : ns.Nodup) (hm : ∀ z, z ∈ ns ↔ 0 ≤ z ∧ z < d) (hp : ns'.Perm ns) (hs : ns'.Pairwise (· ≤ ·)) : ns' = upto d := by
  have inc : (upto d).Pairwise (· < ·) := by
    unfold upto
    refine List.pairwise_map.mpr (List.Pairwise.imp (fun {a b} h => ?_) (List.pairwise_lt_range (n := d)))
    omega
  refine PySem.W.ksm_same (hp.trans ((List.perm_ext_iff_of_nodup hn ?_).mpr fun z => ?_)) hs (inc.imp fun {a b} h => by omega)
  · exact inc.imp fun {a b} h => by omega
  · rw [hm, upto_mem]
theorem upto_len (d : Nat) : (upto d).length = d := by
  unfold upto
  rw [List.length_map, List.length_range]
theorem rgV_upto (d : Nat) : rgV 0 (d : Int) = (upto d).map V.int := by
  unfold rgV upto
  rw [List.map_map, show ((d : Int) - 0).toNat = d by omega]
  refine List.map_congr_left fun i _ => ?_
  show V.int (0 + (i : Int)) = V.int (i : Int)
  rw [Int.zero_add]
theorem flat_mem {d : Nat} {R : List (List Int)} (ok : TabOk d R) {z : Int} : z ∈ R.flatten ↔ 0 ≤ z ∧ z < d := by
  rw [List.mem_flatten]
  constructor
  · rintro ⟨r, hr, hz⟩
    obtain ⟨x, hx, rfl⟩ := List.mem_iff_getElem.mp hr
    refine ent_row ok hx ?_
    rw [List.getD_eq_getElem?_getD, List.getElem?_eq_getElem hx]
    exact hz
  · rintro ⟨h0, h1⟩
    obtain ⟨k, rfl⟩ := Int.eq_ofNat_of_zero_le h0
    refine ⟨R.getD 0 [], ?_, ok.occ k (by omega)⟩
    rw [List.getD_eq_getElem?_getD, List.getElem?_eq_getElem ok.spos]
    exact List.getElem_mem _
section
variable {X : Cx}
def rLenK (K : PySem.W.Frag) : List V → Hp → VK → Prop := fun xs H Q => ∃ p ys, xs = [.ref p] ∧ (SqL K H p ys ∨ SqT K H p ys) ∧ Q (.int ys.length) H
theorem call_lenK {K : PySem.W.Frag} (hK : X.K = K := by rfl) : CallR X (.builtin "len") (rLenK K) := by
  subst hK
  exact call_len_seq
def rTupTK (K : PySem.W.Frag) : List V → Hp → VK → Prop := fun xs H Q => ∃ a ys, xs = [.ref a] ∧ SqT K H a ys ∧ Q (.ref a) H
theorem call_tupTK {K : PySem.W.Frag} (hK : X.K = K := by rfl) : CallR X (.type "tuple") (rTupTK K) := by
  subst hK
  exact call_tupleT
end
theorem vl_true : ∀ n : Nat, (vl n fun _ => V.bl true) = (List.replicate n true).map V.bl
  | 0 => rfl
  | n + 1 => by
    rw [vl_s, vl_true n, List.replicate_succ', List.map_append]
    rfl
/-- {kind: True for row in kept for kind in row}, read -/
theorem dc_rows {K : PySem.W.Frag} {d : Nat} {R : List (List Int)} {b : Addr} {rs : List Addr} {H1 : Hp} {σ : L2.St} {Qd : Hp → Prop} {r q : Nat} (hr : r < σ.length) (hq : q < σ.length) (hrq : r ≠ q) (ok : TabOk d R) (hB : SqT K H1 b (rs.map V.ref)) (hR : Paired (fun r row => PlainT H1 r (row.map V.int)) rs R) {D : Addr} (nD : H1 D = none)
    (h : ∀ H' kvs, Same H1 H' → H' D = some (.dK kvs) → DK kvs R.flatten → Qd H') :
    ∃ W : Nat → Nat → Hp → Prop, (∃ m, W 0 m (upd H1 D (.dK []))) ∧ ∀ i m H, W i m H →
      ((Itt K b).stop i H ∧ Qd H) ∨ ((Itt K b).go i H ∧ ∃ Nx : Hp → Prop, (∀ H', Nx H' → ∃ m', m' < m ∧ W (i + 1) m' H') ∧ ∀ x H', (Itt K b).yld i H x H' → gName r x (wipe σ [r, q]) H' fun σ2 H2 => wipe σ2 [r, q] = wipe σ [r, q] ∧
        iTup K (tVar r) σ2 H2 fun J1 H4 => ∃ W1 : Nat → Nat → Hp → Prop, (∃ m, W1 0 m H4) ∧ ∀ j k H, W1 j k H →
          (J1.stop j H ∧ Nx H) ∨ (J1.go j H ∧ ∃ Nx1 : Hp → Prop, (∀ H', Nx1 H' → ∃ k', k' < k ∧ W1 (j + 1) k' H') ∧ ∀ x H', J1.yld j H x H' → gName q x (wipe σ2 [q]) H' fun σ3 H5 => wipe σ3 [q] = wipe σ2 [q] ∧
            tVar q σ3 H5 fun y H6 => tC (.bl true) σ3 H6 fun z H7 => ∃ kvs k, y = kV k ∧ H7 D = some (.dK kvs) ∧ kvs.length < sizeLine ∧ Nx1 (upd H7 D (.dK (putK kvs k z))))) := by
  have sle := ok.sle
  have rl : rs.length = R.length := Paired.len hR
  refine ⟨fun i m H' => m = R.length - i ∧ i ≤ R.length ∧ Same H1 H' ∧ ∃ kvs, H' D = some (.dK kvs) ∧ DK kvs (R.take i).flatten ∧ kvs.length ≤ i * 24, ⟨R.length, by omega, by omega, Same.fresh nD, [], upd_same, DK.nil, by simp⟩, ?_⟩
  rintro i m H' ⟨rfl, hi, sH, kvs, eD, hk, hl⟩
  have hB' := Same.tp sH hB
  by_cases lt : i < R.length
  case neg =>
    refine .inl ⟨⟨_, hB', by rw [List.length_map]; omega⟩, h H' kvs sH eD ?_⟩
    rw [List.take_of_length_le (by omega)] at hk
    exact hk
  case pos =>
    obtain ⟨ri, g0, g1⟩ := rows_get hR lt
    have rowlen := row_len ok lt
    refine .inr ⟨⟨_, _, hB', g0⟩, fun H2 => Same H1 H2 ∧ ∃ kvs, H2 D = some (.dK kvs) ∧ DK kvs (R.take (i + 1)).flatten ∧ kvs.length ≤ (i + 1) * 24, fun H2 p2 => ⟨R.length - (i + 1), by omega, rfl, by omega, p2⟩, fun x H2 hy => ?_⟩
    obtain ⟨rfl, hy⟩ := hy
    have ex : x = .ref ri := by
      have := hy _ hB'
      rw [g0] at this
      exact (Option.some.inj this).symm
    subst ex
    have w1 : wipe ((wipe σ [r, q]).set r (some (V.ref ri))) [r, q] = wipe σ [r, q] := by
      show ((((σ.set q none).set r none).set r (some (V.ref ri))).set q none).set r none = (σ.set q none).set r none
      rw [List.set_comm _ _ hrq.symm, List.set_set, List.set_set, List.set_comm _ _ hrq.symm, List.set_set]
    have l1 : (wipe σ [r, q]).length = σ.length := wipe_length _ _
    have s2 : ((wipe σ [r, q]).set r (some (V.ref ri)))[r]? = some (some (.ref ri)) := List.getElem?_set_self (by rw [l1]; exact hr)
    refine ⟨w1, .ref ri, s2, ri, rfl, ⟨_, (g1.same sH).sq⟩, ?_⟩
    refine ⟨fun j k H3 => k = R.length - j ∧ j ≤ R.length ∧ Same H1 H3 ∧ ∃ kvs, H3 D = some (.dK kvs) ∧ DK kvs ((R.take i).flatten ++ (R.getD i []).take j) ∧ kvs.length ≤ i * 24 + j, ⟨R.length, by omega, by omega, sH, kvs, eD, by simpa using hk, by omega⟩, ?_⟩
    rintro j k H3 ⟨rfl, hj, sH3, kvs3, eD3, hk3, hl3⟩
    have g3 := (g1.same sH3).sq (K := K)
    by_cases lj : j < R.length
    case neg =>
      refine .inl ⟨⟨_, g3, by rw [List.length_map, rowlen]; omega⟩, sH3, kvs3, eD3, ?_, by omega⟩
      rw [List.take_of_length_le (l := R.getD i []) (i := j) (by rw [rowlen]; omega)] at hk3
      have e : (R.take (i + 1)).flatten = (R.take i).flatten ++ R[i] := by
        rw [List.take_add_one, List.getElem?_eq_getElem lt, List.flatten_append]
        simp only [Option.toList, List.flatten_cons, List.flatten_nil, List.append_nil]
      rw [e]
      rw [List.getD_eq_getElem?_getD, List.getElem?_eq_getElem lt] at hk3
      exact hk3
    case pos =>
      have lj' : j < (R.getD i []).length := by rw [rowlen]; exact lj
      have gj : ((R.getD i []).map V.int)[j]? = some (.int (R.getD i [])[j]) := by
        rw [List.getElem?_map, List.getElem?_eq_getElem lj']
        rfl
      refine .inr ⟨⟨_, _, g3, gj⟩, fun H4 => Same H1 H4 ∧ ∃ kvs, H4 D = some (.dK kvs) ∧ DK kvs ((R.take i).flatten ++ (R.getD i []).take (j + 1)) ∧ kvs.length ≤ i * 24 + (j + 1), fun H4 p4 => ⟨R.length - (j + 1), by omega, rfl, by omega, p4⟩, fun y H4 hy => ?_⟩
      obtain ⟨rfl, hy⟩ := hy
      have ey : y = .int (R.getD i [])[j] := by
        have := hy _ g3
        rw [gj] at this
        exact (Option.some.inj this).symm
      subst ey
      have l2 : (wipe ((wipe σ [r, q]).set r (some (V.ref ri))) [q]).length = σ.length := by rw [wipe_length, List.length_set, l1]
      have w2 : wipe ((wipe ((wipe σ [r, q]).set r (some (V.ref ri))) [q]).set q (some (V.int (R.getD i [])[j]))) [q] = wipe ((wipe σ [r, q]).set r (some (V.ref ri))) [q] := by
        show ((((wipe σ [r, q]).set r (some (V.ref ri))).set q none).set q (some (V.int (R.getD i [])[j]))).set q none = ((wipe σ [r, q]).set r (some (V.ref ri))).set q none
        rw [List.set_set, List.set_set]
      refine ⟨w2, _, List.getElem?_set_self (by rw [l2]; exact hq), kvs3, .inl (R.getD i [])[j], rfl, eD3, ?_, ?_⟩
      · have : i * 24 + j ≤ 24 * 24 + 24 := by
          have := Nat.mul_le_mul_right 24 (show i ≤ 24 by omega)
          omega
        exact small1000 (by omega)
      · refine ⟨Same.put sH3 nD, _, upd_same, ?_, ?_⟩
        · rw [List.take_add_one, List.getElem?_eq_getElem lj', ← List.append_assoc]
          exact hk3.put _ _
        · have := length_putK kvs3 (.inl (R.getD i [])[j]) (.bl true)
          omega
end K17

set_option Elab.async false
set_option linter.all false
set_option maxRecDepth 100000
set_option maxHeartbeats 4000000
namespace K17
open PySem PySem.Spec PyProof.Rows L2 Mth RZ
/-- a constant of the module -/
theorem pnI {X : Cx} {x : Str} {i : Int} {t : Tok} {pos : Pos} (hm : X.mg x = some (.int i t)) (hg : Gl X x := by rfl) (hd : (x == ("__debug__" : Str)) = false := by decide) : PE X (.Name x pos) (tC (.int i)) := pe_glob hg hm ⟨t, rfl⟩ hd
/-- the ways told so far: each by a cell of its kind -/
def Told (H : Hp) (R : List (List Int)) (kvs : List (Key × V)) : Prop := ∀ k v, valV kvs k = some v → ∃ (a : Addr) (tl : List (List Key × V)) (x y : Nat), v = .ref a ∧ H a = some (.dT tl) ∧ IsTally tl (zr R x y) ∧ x < R.length ∧ y < R.length ∧ k = .inl (at2 R x y)
theorem Told.same {H H' : Hp} {R : List (List Int)} {kvs : List (Key × V)} (h : Told H R kvs) (e : Same H H') : Told H' R kvs := fun k v q => by
  obtain ⟨a, tl, x, y, h1, h2, h3⟩ := h k v q
  exact ⟨a, tl, x, y, h1, e _ _ h2, h3⟩
theorem bl_eq (p q : Prop) [Decidable p] [Decidable q] (h : p ↔ q) : decide (V.bl (decide p) = V.bl (decide q)) = true := by
  refine decide_eq_true ?_
  by_cases c : p
  · rw [decide_eq_true c, decide_eq_true (h.mp c)]
  · rw [decide_eq_false c, decide_eq_false fun z => c (h.mpr z)]
theorem nat_int_eq {x y : Nat} : (V.int (0 + (x : Int)) = V.int (0 + (y : Int))) ↔ x = y := by
  constructor
  · intro h
    have := V.int.inj h
    omega
  · intro h
    rw [h]
theorem at2_get {d : Nat} {R : List (List Int)} (ok : TabOk d R) {x y : Nat} (hx : x < R.length) (hy : y < R.length) : ((R.getD x []).map V.int)[y]? = some (.int (at2 R x y)) := by
  have l := row_len ok hx
  unfold at2
  rw [List.getElem?_map, List.getElem?_eq_getElem (by rw [l]; exact hy), List.getD_eq_getElem?_getD (l := R.getD x []), List.getElem?_eq_getElem (by rw [l]; exact hy)]
  rfl
section
variable {P : Program} {w : World} {K : PySem.W.Frag} {mg : Str → Option Value} {base : Heap}
def spCrows (K : PySem.W.Frag) : Sp := fun vs H Q _ => ∃ (d : Nat) (R : List (List Int)) (b : Addr), vs = [.ref b] ∧ TabOk d R ∧ RowsAt K H b R ∧ ∀ H' b', Same H H' → RowsAt K H' b' R → Q (.ref b') H'
abbrev nCrows : List Str := ["rows", "count", "row", "kept", "kind", "kinds", "ways", "x", "y", "told"]
theorem scCrows : FnScope nCrows ["rows"] (defScope (topS 18)) := ⟨rfl, rfl, rfl, by decide +kernel, rfl, by decide +kernel, by decide +kernel⟩
theorem has_crows (F : Fn K mg "checked_rows" 18) (T : Txt K mg) (CR : Has P w K mg base "require" ["holds"] 1 spRequire) (CW : Has P w K mg base "ways_of" ["rows", "x", "y"] 1 (spWays K)) :
    Has P w K mg base "checked_rows" ["rows"] 2 (spCrows K) := by
  obtain ⟨t24, h24⟩ := T.mostListed
  obtain ⟨t8, h8⟩ := T.mostListedKinds
  refine has_mk F scCrows (fun _ _ _ _ _ _ us hl => match us, hl with | [_], _ => rfl) (fun vs H Q E h => ?_) (fun f cdv A outer s H vs Q E hr h => ?_)
  · obtain ⟨d, R, b, rfl, _⟩ := h
    rfl
  · obtain ⟨d, R, b, rfl, ok, ⟨rs, hB, hR⟩, q⟩ := h
    have hu := hu_of hr
    refine ⟨_, pss_cons (ps_set (i := 1) scCrows.nd rfl (.inr rfl) (pe_callB call_len_seq (by rfl) T.len PySem.boot_len (pa_cons (pv 0) pa_nil)))
      (pss_cons (ps_expr (pe_h CR hr (by rfl) (pa_cons (pe_and (pe_chain op_le op_le pe_int (pv 1) (pnI h24)) (pe_one (pe_callB (cr_all rfl) (by rfl) T.all (by decide +kernel) (pa_cons
        (pe_lc (own := [("row", 2)]) (g := gName 2) (by rfl) scCrows.nd (pi_tup (pv 0)) (blkOk_by (own := [("row", 2)]) (N := nCrows) (sc := defScope (topS 18)) (by decide +kernel)) (fun _ _ _ _ _ => pg_name (i := 2) scCrows.nd rfl (Or.inl rfl)) (fun _ _ _ _ _ => pts_nil)
          (fun _ _ _ _ _ => pe_cmpR op_eq (pe_callB (call_lenK (K := K)) (by rfl) T.len PySem.boot_len (pa_cons (pv 2) pa_nil)) (pv 1) (nomark _))) pa_nil)))) pa_nil)))
      (pss_cons (ps_set (i := 3) scCrows.nd rfl (.inl rfl) (pe_callTy call_tupleP (by rfl) T.tuple (by decide +kernel) (pa_cons
        (pe_lc (own := [("row", 2)]) (g := gName 2) (by rfl) scCrows.nd (pi_tup (pv 0)) (blkOk_by (own := [("row", 2)]) (N := nCrows) (sc := defScope (topS 18)) (by decide +kernel)) (fun _ _ _ _ _ => pg_name (i := 2) scCrows.nd rfl (Or.inl rfl)) (fun _ _ _ _ _ => pts_nil)
          (fun _ _ _ _ _ => pe_callTy (call_tupTK (K := K)) (by rfl) T.tuple (by decide +kernel) (pa_cons (pv 2) pa_nil))) pa_nil)))
      (pss_cons (ps_set (i := 5) scCrows.nd rfl (.inl rfl) (pe_callB cr_sortedI (by rfl) T.sorted (by decide +kernel) (pa_cons (pe_callTy (call_list_dK rfl) (by rfl) T.list (by decide +kernel) (pa_cons
        (pe_dc2 (own := [("row", 2), ("kind", 4)]) (vs1 := [4]) (g := gName 2) (wi1 := iTup K (tVar 2)) (g1 := gName 4) (tk := tVar 4) (tv := tC (.bl true)) (by rfl) scCrows.nd (pi_tup (pv 3)) (blkOk_by (own := [("row", 2), ("kind", 4)]) (N := nCrows) (sc := defScope (topS 18)) (by decide +kernel)) (by decide)
          (fun _ _ _ _ _ => pg_name (i := 2) scCrows.nd rfl (Or.inl rfl)) (fun _ _ _ _ _ => pi_tup (pv 2)) (fun _ _ _ _ _ => pg_name (i := 4) scCrows.nd rfl (Or.inl rfl)) (fun _ _ _ _ _ => pv 4) (fun _ _ _ _ _ => pe_bl)) pa_nil)) pa_nil)))
      (pss_cons (ps_expr (pe_h CR hr (by rfl) (pa_cons (pe_and (pe_cmpR (op_eqD hr.units) (pv 5) (pe_listRg rfl (by rfl) T.list (prg_1 (by rfl) T.range (pe_callB call_len_seq (by rfl) T.len PySem.boot_len (pa_cons (pv 5) pa_nil)))) (nomark _))
        (pe_one (pe_cmpR op_le (pe_callB call_len_seq (by rfl) T.len PySem.boot_len (pa_cons (pv 5) pa_nil)) (pnI h8) (nomark _)))) pa_nil)))
      (pss_cons (ps_set (i := 6) scCrows.nd rfl (.inl rfl) pe_dnewK)
      (pss_cons (ps_for PassesOwn.never rfl (pi_range1 rfl T.range (pa_cons (pv 1) pa_nil)) (pg_name (i := 7) scCrows.nd rfl (.inl rfl))
        (pss_one (ps_for PassesOwn.never rfl (pi_range1 rfl T.range (pa_cons (pv 1) pa_nil)) (pg_name (i := 8) scCrows.nd rfl (.inl rfl))
          (pss_cons (ps_set (i := 4) scCrows.nd rfl (.inl rfl) (pxT (K := K) (pxT (K := K) (pv 3) (pv 7)) (pv 8)))
          (pss_cons (ps_expr (pe_h CR hr (by rfl) (pa_cons (pe_and (pe_cmpR op_eq (pe_cmpR op_eq (pv 4) pe_int (nomark _)) (pe_cmpR op_eq (pv 7) (pv 8) (nomark _)) (nomark _)) (pe_one (pe_cmpR op_eq (pv 4) (pxT (K := K) (pxT (K := K) (pv 3) (pv 8)) (pv 7)) (nomark _)))) pa_nil)))
          (pss_cons (ps_set (i := 9) scCrows.nd rfl (.inl rfl) (pe_h CW hr (by rfl) (pa_cons (pv 3) (pa_cons (pv 7) (pa_cons (pv 8) pa_nil)))))
          (pss_cons (ps_expr (pe_h CR hr (by rfl) (pa_cons (pe_cmpR (op_eq_dT hu) (pe_dget2 hu (pv 6) (pv 4) (pv 9) ⟨rfl, rfl, rfl, rfl⟩) (pv 9) (nomark _)) pa_nil)))
          (pss_one (ps_dput hu (pv 6) (pv 4) (pv 9) rfl))))))))) 
      (pss_one (ps_ret (pv 3))))))))), ?_⟩
    have sle := ok.sle
    have spos := ok.spos
    have rl : rs.length = R.length := Paired.len hR
    -- count
    refine ⟨.ref b, rfl, b, _, rfl, .inr hB, ?_⟩
    rw [List.length_map, rl]
    -- require(1 <= count <= 24 and all(..))
    refine ⟨.int R.length, rfl, 1, _, rfl, rfl, true, congrArg V.bl (decide_eq_true (by omega)), iteT ?_⟩
    refine ⟨_, _, rfl, rfl, true, congrArg V.bl (decide_eq_true (by omega)), iteT ?_⟩
    refine ⟨.ref b, rfl, b, rfl, ⟨_, hB⟩, fun D nD => ?_⟩
    refine lc_tup (K := K) (a := b) (xs := rs.map V.ref) (Upto H D fun _ => .bl true) (Upto.zero nD) (fun i H' _ u => Same.tp u.1 hB) (fun i x H' hx u => ?_) (fun H1 u => ?_)
    · have hi : i < R.length := by
        have := (List.getElem?_eq_some_iff.mp hx).1
        rwa [List.length_map, rl] at this
      obtain ⟨r, g0, g1⟩ := rows_get hR hi
      rw [g0] at hx
      have ex := Option.some.inj hx
      subst ex
      refine ⟨rfl, tYesI ?_⟩
      refine iteT ?_
      refine ⟨.ref r, rfl, r, _, rfl, .inr (g1.same u.1).sq, .int R.length, rfl, rfl, _, u.2, by rw [vl_len]; exact small1000 (by omega), ?_⟩
      refine u.put nD (Same.refl _) ?_
      rw [List.length_map, row_len ok hi]
      exact congrArg V.bl (decide_eq_true rfl)
    rw [List.length_map, rl] at u
    refine ⟨D, List.replicate R.length true, rfl, .inl (.inl (by rw [u.2, vl_true])), ?_⟩
    refine ⟨congrArg (fun z => [V.bl z]) (List.all_eq_true.mpr fun z hz => by rw [(List.mem_replicate.mp hz).2]; rfl), ?_⟩
    have s1 := u.1
    clear u nD
    have hB1 := Same.tp s1 hB
    -- kept
    refine ⟨.ref b, rfl, b, rfl, ⟨_, hB1⟩, fun D2 nD2 => ?_⟩
    refine lc_tup (K := K) (a := b) (xs := rs.map V.ref) (fun i H' => Same H1 H' ∧ H' D2 = some (.lst ((rs.map V.ref).take i))) ⟨Same.fresh nD2, upd_same⟩ (fun i H' _ u => Same.tp u.1 hB1) (fun i x H' hx u => ?_) (fun H2 u => ?_)
    · have hi : i < R.length := by
        have := (List.getElem?_eq_some_iff.mp hx).1
        rwa [List.length_map, rl] at this
      obtain ⟨r, g0, g1⟩ := rows_get hR hi
      have ex := Option.some.inj (g0.symm.trans hx)
      subst ex
      refine ⟨rfl, tYesI ?_⟩
      refine iteT ?_
      refine ⟨.ref r, rfl, r, _, rfl, ((g1.same s1).same u.1).sq, _, u.2, ?_, Same.put u.1 nD2, ?_⟩
      · rw [List.length_take, List.length_map]
        exact small1000 (by omega)
      · rw [upd_same, List.take_add_one, hx]
        rfl
    rw [List.take_length] at u
    obtain ⟨s2, e2⟩ := u
    refine ⟨D2, _, rfl, .inl (.inl e2), fun b2 o2 nb2 pb2 => ?_⟩
    have s3 : Same H (upd H2 b2 o2) := s1.trans (s2.trans (Same.fresh nb2))
    have hB3 : SqT K (upd H2 b2 o2) b2 (rs.map V.ref) := pb2.sq
    have hR3 : Paired (fun r row => PlainT (upd H2 b2 o2) r (row.map V.int)) rs R := Paired.imp (fun _ _ q => PlainT.same s3 q) hR
    generalize upd H2 b2 o2 = H3 at s3 hB3 hR3
    clear e2 s2 nD2 pb2 nb2
    -- kinds
    refine ⟨.ref b2, rfl, b2, rfl, ⟨_, hB3⟩, fun D4 nD4 => ?_⟩
    refine dc_rows (K := K) (d := d) (R := R) (b := b2) (rs := rs) (r := 2) (q := 4) ?la ?lb (by decide) ok hB3 hR3 nD4 (fun H4 kvs s4 e4 dk => ?_)
    case la =>
      show 2 < 10
      decide
    case lb =>
      show 4 < 10
      decide
    obtain ⟨ns, en, nd, mem⟩ := dk.ints
    refine ⟨D4, kvs, rfl, e4, fun l5 nl5 => ?_⟩
    rw [en]
    refine ⟨l5, ns, rfl, lsU, fun ns' p6 perm inc np6 => ?_⟩
    have ens : ns' = upto d := sorted_upto nd (fun z => (mem z).trans (flat_mem ok)) perm inc
    subst ens
    have s6 : Same H3 (upd (upd H4 l5 (.lst (ns.map V.int))) p6 (.lst ((upto d).map V.int))) := s4.trans ((Same.fresh nl5).trans (Same.fresh np6))
    have l6 : SqL K (upd (upd H4 l5 (.lst (ns.map V.int))) p6 (.lst ((upto d).map V.int))) p6 ((upto d).map V.int) := lsU
    generalize upd (upd H4 l5 (.lst (ns.map V.int))) p6 (.lst ((upto d).map V.int)) = H6 at s6 l6
    clear np6 nl5 e4 s4 nD4
    -- require(kinds == list(range(len(kinds))) and len(kinds) <= 8)
    have dle := ok.dle
    have dpos := ok.dpos
    have kl : (((upto d).map V.int).length : Int) = (d : Int) := by rw [List.length_map, upto_len]
    refine ⟨.ref p6, rfl, .ref p6, rfl, p6, _, rfl, .inl l6, (d : Int), congrArg V.int kl, RgOk.of_le (by omega) (by omega) (by omega) (by omega), fun q7 nq7 => ?_⟩
    rw [rgV_upto]
    have s7 : Same H6 (upd H6 q7 (.lst ((upto d).map V.int))) := Same.fresh nq7
    refine ⟨_, _, dpL (s7.seq l6), dpL lsU, shI _, shI _, true, congrArg V.bl (eqvI _), iteT ?_⟩
    refine ⟨.ref p6, rfl, p6, _, rfl, .inl (s7.seq l6), _, 8, rfl, rfl, ?_⟩
    refine ⟨congrArg (fun z => [V.bl z]) (decide_eq_true (by rw [kl]; omega)), ?_⟩
    have s8 : Same H (upd H6 q7 (.lst ((upto d).map V.int))) := s3.trans (s6.trans s7)
    have hB8 := Same.tp (s6.trans s7) hB3
    have hR8 : Paired (fun r row => PlainT (upd H6 q7 (.lst ((upto d).map V.int))) r (row.map V.int)) rs R := Paired.imp (fun _ _ q => PlainT.same (s6.trans s7) q) hR3
    generalize upd H6 q7 (.lst ((upto d).map V.int)) = H8 at s8 hB8 hR8
    clear nq7 s7 l6 s6
    -- ways
    intro o no
    have s9 : Same H8 (upd H8 o (.dK [])) := Same.fresh no
    refine ⟨.int R.length, rfl, (R.length : Int), rfl, by omega, by omega, ?_⟩
    refine for_range (lo := 0) (n := (R.length : Int).toNat) (fun x σ H' => ∃ v2 v4 v7 v8 v9 kvs, σ = [some (.ref b), some (.int R.length), v2, some (.ref b2), v4, some (.ref p6), some (.ref o), v7, v8, v9] ∧ Same H8 H' ∧ H' o = some (.dK kvs) ∧ Told H' R kvs ∧ kvs.length ≤ x * 24)
      ⟨_, _, _, _, _, [], rfl, s9, upd_same, (fun k v h => by cases h), by simp⟩ ?_ ?_
    · rintro x σ H' hx ⟨v2, v4, v7, v8, v9, kvs, rfl, sH, eo, tk, lk⟩
      rw [Int.toNat_natCast] at hx
      refine ⟨.int R.length, rfl, (R.length : Int), rfl, by omega, by omega, ?_⟩
      refine for_range (lo := 0) (n := (R.length : Int).toNat) (fun y σ H' => ∃ v4 v8 v9 kvs, σ = [some (.ref b), some (.int R.length), v2, some (.ref b2), v4, some (.ref p6), some (.ref o), some (.int (0 + (x : Int))), v8, v9] ∧ Same H8 H' ∧ H' o = some (.dK kvs) ∧ Told H' R kvs ∧ kvs.length ≤ x * 24 + y)
        ⟨_, _, _, kvs, rfl, sH, eo, tk, lk⟩ ?_ ?_
      · rintro y σ H' hy ⟨v4, v8, v9, kvs, rfl, sH, eo, tk, lk⟩
        rw [Int.toNat_natCast] at hy
        obtain ⟨rx, gx0, gx1⟩ := rows_get hR8 hx
        obtain ⟨ry, gy0, gy1⟩ := rows_get hR8 hy
        have hBx := Same.tp sH hB8
        -- kind = kept[x][y]
        refine ⟨.ref b2, rfl, .int (0 + (x : Int)), rfl, b2, _, _, .ref rx, rfl, rfl, hBx, at_of (Int.zero_add _) gx0, .int (0 + (y : Int)), rfl, rx, _, _, .int (at2 R x y), rfl, rfl, (gx1.same sH).sq, at_of (Int.zero_add _) (at2_get ok hx hy), ?_⟩
        -- require
        refine ⟨.int (at2 R x y), rfl, rfl, .int (0 + (x : Int)), rfl, .int (0 + (y : Int)), rfl, rfl, rfl, true, ?_, iteT ?_⟩
        · refine congrArg V.bl (bl_eq _ _ ?_)
          rw [nat_int_eq]
          exact ⟨fun z => (ok.diag x hx y hy).mp (V.int.inj z), fun z => congrArg V.int ((ok.diag x hx y hy).mpr z)⟩
        refine ⟨.int (at2 R x y), rfl, .ref b2, rfl, .int (0 + (y : Int)), rfl, b2, _, _, .ref ry, rfl, rfl, hBx, at_of (Int.zero_add _) gy0, .int (0 + (x : Int)), rfl, ry, _, _, .int (at2 R y x), rfl, rfl, (gy1.same sH).sq, at_of (Int.zero_add _) (at2_get ok hy hx), rfl, ?_⟩
        refine ⟨congrArg (fun z => [V.bl z]) (decide_eq_true (by rw [ok.symm x hx y hy])), ?_⟩
        -- told
        refine ⟨.ref b2, rfl, .int (0 + (x : Int)), rfl, .int (0 + (y : Int)), rfl, d, R, b2, x, y, ?_, ok, ⟨rs, hBx, Paired.imp (fun _ _ q => PlainT.same sH q) hR8⟩, hx, hy, fun H2 p tl s2 np e2 ht => ?_⟩
        · rw [Int.zero_add, Int.zero_add]
          rfl
        have eo2 := s2 _ _ eo
        have tk2 := tk.same s2
        -- require(ways.get(kind, told) == told)
        refine ⟨.ref o, rfl, o, rfl, .inl ⟨kvs, .inl eo2⟩, .int (at2 R x y), rfl, .ref p, rfl, _, DGet.k (k := Sum.inl (at2 R x y)) eo2, .ref p, rfl, ?_⟩
        have alike : ∃ (a : Addr) (ks : List (List Key × V)), (valV kvs (Sum.inl (at2 R x y) : Key)).getD (.ref p) = .ref a ∧ H2 a = some (.dT ks) ∧ ks.length = tl.length ∧ ∀ z ∈ ks, valV tl z.1 = some z.2 ∧ flatB z.2 = true := by
          cases e : valV kvs (Sum.inl (at2 R x y) : Key) with
          | none => exact ⟨p, tl, rfl, e2, IsTally.alike ht ht fun _ _ => rfl⟩
          | some v =>
            obtain ⟨a, ks, x', y', rfl, ea, ta, hx', hy', ek⟩ := tk2 _ _ e
            exact ⟨a, ks, rfl, ea, IsTally.alike ta ht fun i j => cn_alike ok hx' hy' hx hy (Sum.inl.inj ek).symm i j⟩
        obtain ⟨a, ks, ea, ha, al1, al2⟩ := alike
        rw [ea]
        refine ⟨a, p, ks, tl, rfl, rfl, ha, e2, al1, al2, rfl, ?_⟩
        -- ways[kind] = told
        have hx24 : x * 24 + y ≤ 24 * 24 + 24 := by
          have := Nat.mul_le_mul_right 24 (show x ≤ 24 by omega)
          omega
        refine ⟨.ref p, rfl, .ref o, rfl, .int (at2 R x y), rfl, o, _, rfl, DPut.k (k := Sum.inl (at2 R x y)) eo2 (small1000 (by omega)), ?_⟩
        refine ⟨_, _, _, _, rfl, Same.put (sH.trans s2) no, upd_same, ?_, ?_⟩
        · intro k v hk
          rw [valV_put] at hk
          by_cases c : k = (Sum.inl (at2 R x y) : Key)
          · rw [if_pos c] at hk
            have ev := (Option.some.inj hk).symm
            refine ⟨p, tl, x, y, ev, ?_, ht, hx, hy, c⟩
            rw [upd_ne (ne_of e2 eo2 (fun z => nomatch z))]
            exact e2
          · rw [if_neg c] at hk
            obtain ⟨a', t', x', y', h1, h2, h3⟩ := tk2 k v hk
            refine ⟨a', t', x', y', h1, ?_, h3⟩
            rw [upd_ne (ne_of h2 eo2 (fun z => nomatch z))]
            exact h2
        · have := length_putK kvs (Sum.inl (at2 R x y) : Key) (.ref p)
          omega
      · rintro σ H' ⟨v4, v8, v9, kvs, rfl, sH, eo, tk, lk⟩
        rw [Int.toNat_natCast] at lk
        exact ⟨_, _, _, _, _, kvs, rfl, sH, eo, tk, by omega⟩
    · rintro σ H' ⟨v2, v4, v7, v8, v9, kvs, rfl, sH, eo, tk, lk⟩
      exact ⟨.ref b2, rfl, q H' b2 (s8.trans sH) ⟨rs, Same.tp sH hB8, Paired.imp (fun _ _ q => PlainT.same sH q) hR8⟩⟩
end
end K17

set_option Elab.async false
set_option linter.all false
set_option maxRecDepth 100000
set_option maxHeartbeats 4000000
namespace K17
open PySem PySem.Spec PyProof.Rows L2 Mth RZ
/-- how many parts -/
def np : Tr → Nat
  | .prod a b => np a + np b + 1
  | _ => 1
theorem np_leaf : ∀ {t : Tr}, t.Leaf → np t = 1
  | .words _ _, _ => rfl
  | .sets _ _, _ => rfl
  | .listed _ _, _ => rfl
  | .prod _ _, h => h.elim
/-- the table of the sorts -/
structure Mem (K : PySem.W.Frag) (w : World) (mg : Str → Option Value) (d : Addr) : Prop where
  g : mg "MEMBERS" = some (.ref d)
  k : ∃ es n, KDict K w d es n
  v : ∀ q ∈ ([("words", 3), ("sets", 3), ("listed", 2), ("product", 3)] : List (Str × Int)), ∃ u, PySem.W.nsIn K d q.1 = some (some u) ∧ RelV (.int q.2) u
/-- as the head tells it, one default -/
def Fn1 (K : PySem.W.Frag) (mg : Str → Option Value) (x : Str) (i : Nat) (v : V) : Prop :=
  ∃ f fd, FunD K x x (defArgs (topS i)) (defBody (topS i)) (defScope (topS i)) [v] [] f fd ∧ mg x = some (.ref f)
/-- a def whose last parameter may lack -/
def Has1 (P : Program) (w : World) (K : PySem.W.Frag) (mg : Str → Option Value) (base : Heap) (x : Str) (ps : List Str) (v : V) (k : Nat) (sp : Sp) : Prop :=
  ∃ f fd, FnOk P w K mg base CX0 k f fd ps sp ∧ mg x = some (.ref f) ∧ PySem.W.keepIn K (.ref f) = true ∧ Binds K fd ps [] ∧ ∃ ds, Vals [v] ds ∧ Binds K fd ps ds
section
variable {P : Program} {w : World} {K : PySem.W.Frag} {mg : Str → Option Value} {base : Heap} {x a b : Str} {N : List Str} {i k j : Nat} {sp sp' : Sp} {v : V}
theorem Has1.all (h : Has1 P w K mg base x [a, b] v k sp) : Has P w K mg base x [a, b] k sp :=
  let ⟨f, fd, F, g, kp, B, _⟩ := h
  ⟨f, fd, F, g, kp, B⟩
theorem Has1.mono (h : Has1 P w K mg base x [a, b] v k sp) (l : k ≤ j) : Has1 P w K mg base x [a, b] v j sp :=
  let ⟨f, fd, F, r⟩ := h
  ⟨f, fd, F.mono l, r⟩
theorem has1_of (F : Fn1 K mg x i v) (hb1 : ∀ (D : Addr) (kV doc pm : Value) (an : Option Addr) (cdv ct : Value) (us its : List Value), us.length = 1 → its.length = 1 →
      ∃ k, bindArgs (PySem.W.fnOf x x (defArgs (topS i)) (defBody (topS i)) (defScope (topS i)) (.ref D) kV doc pm an cdv ct) ⟨us, []⟩ = seqItems? (.ref D) >>= k ∧ k (some its.toArray) = pure ([a, b].zip (us ++ its)))
    (hb2 : ∀ (D : Addr) (kV doc pm : Value) (an : Option Addr) (cdv ct : Value) (us its : List Value), us.length = 2 → its.length = 1 →
      ∃ k, bindArgs (PySem.W.fnOf x x (defArgs (topS i)) (defBody (topS i)) (defScope (topS i)) (.ref D) kV doc pm an cdv ct) ⟨us, []⟩ = seqItems? (.ref D) >>= k ∧ k (some its.toArray) = pure ([a, b].zip us))
    (ok : ∀ f fd, FunD K x x (defArgs (topS i)) (defBody (topS i)) (defScope (topS i)) [v] [] f fd → FnOk P w K mg base CX0 k f fd [a, b] sp) : Has1 P w K mg base x [a, b] v k sp := by
  obtain ⟨f, fd, F, g⟩ := F
  obtain ⟨d1, v1, b1⟩ := F.binds1 (ps := [a, b]) 1 0 (List.cons_ne_nil _ _) rfl fun D kV doc pm an cdv ct us its h1 h2 => hb1 D kV doc pm an cdv ct us its h1 h2
  obtain ⟨d2, v2, b2⟩ := F.binds1 (ps := [a, b]) 2 1 (List.cons_ne_nil _ _) rfl fun D kV doc pm an cdv ct us its h1 h2 => by
    obtain ⟨k, e1, e2⟩ := hb2 D kV doc pm an cdv ct us its h1 h2
    refine ⟨k, e1, ?_⟩
    rw [e2, show its.drop 1 = [] from List.drop_eq_nil_of_le (Nat.le_of_eq h2), List.append_nil]
  have e0 : d2 = [] := by
    cases v2
    rfl
  subst e0
  exact ⟨f, fd, ok f fd F, g, F.kp, b2, d1, v1, b1⟩
/-- f(e): the last parameter lacks -/
theorem pe_h1 {X : Cx} {p pos : Pos} {e : Expr} {es : List Expr} {t : TA} {ps : List Str} (C : Has1 X.prog X.w X.K X.mg X.base x ps v k sp) (hr : Room k X.A) (hg : Gl X x) (ha : PA X (e :: es) t)
    (hdb : (x == ("__debug__" : Str)) = false := by decide) (he : starEach (e :: es) X.env = (false, eval e X.env) :: starEach es X.env := by rfl) (hpl : (backTo pos (starEach es X.env)).any (·.1) = false := by rfl) :
    PE X (.Call (.Name x p) (e :: es) [] pos) (tCall sp [v] E0 t) := by
  obtain ⟨f, fd, F, g, kp, _, ds, r, b⟩ := C
  exact pe_call F hr hg g kp b r pass0 ha hdb he hpl
theorem top_kind {d : Nat} {R : List (List Int)} (ok : TabOk d R) {m : Int} (hm : m ∈ R.getD 0 []) (hle : ∀ y, y ∈ R.getD 0 [] → y ≤ m) : m + 1 = (d : Int) := by
  have h1 := hle _ (ok.occ (d - 1) (by have := ok.dpos; omega))
  have h2 := ent_row ok ok.spos hm
  have := ok.dpos
  omega
/-! ### checked_part -/
def spPart (K : PySem.W.Frag) (d : Nat) : Sp := fun vs H Q _ => ∃ (t : Tr) (v : V) (dep : Nat), t.depth < d ∧ t.Good ∧ vs = [v, .int dep] ∧ dep + t.depth ≤ 7 ∧ TreeAt K H t v ∧
  ∀ H' p v', Same H H' → SqT K H' p [v', .int (np t : Nat), .int (t.pts : Nat), .int (t.kn : Nat)] → TreeAt K H' t v' → Q (.ref p) H'
abbrev nPart : List Str := ["tree", "depth", "one", "parts", "points", "kinds", "other", "more", "many", "sorts", "rows", "_", "n", "k"]
theorem scPart : FnScope nPart ["tree", "depth"] (defScope (topS 19)) := ⟨rfl, rfl, rfl, by decide +kernel, rfl, by decide +kernel, by decide +kernel⟩
theorem has_part {md : Addr} (F : Fn1 K mg "checked_part" 19 (.int 1)) (T : Txt K mg) (M : Mem K w mg md) (CR : Has P w K mg base "require" ["holds"] 1 spRequire) (C1 : Has P w K mg base "choose" ["n", "k"] 1 spChoose) (C2 : Has P w K mg base "power_of" ["base", "many"] 1 spPower)
    (CC : Has P w K mg base "checked_rows" ["rows"] 2 (spCrows K)) : ∀ d, Has1 P w K mg base "checked_part" ["tree", "depth"] (.int 1) (d + 2) (spPart K d)
  | 0 => by
    refine has1_of F (fun D _ _ _ _ _ _ us its h1 h2 => match us, its, h1, h2 with | [_], [_], _, _ => ⟨_, rfl, rfl⟩) (fun D _ _ _ _ _ _ us its h1 h2 => match us, its, h1, h2 with | [_, _], [_], _, _ => ⟨_, rfl, rfl⟩) (fun f fd F => ?_)
    exact ⟨fun vs H Q E ⟨t, v, _, h, _⟩ => absurd h (Nat.not_lt_zero _), fun A outer s H args us vs Q E hr he hb hv ⟨t, v, _, h, _⟩ => absurd h (Nat.not_lt_zero _)⟩
  | d + 1 => by
    have C := (has_part F T M CR C1 C2 CC d).all
    obtain ⟨es, nn, D⟩ := M.k
    obtain ⟨t1, h1⟩ := T.mostParts
    obtain ⟨t2, h2⟩ := T.mostPoints
    obtain ⟨t3, h3⟩ := T.mostKinds
    obtain ⟨t4, h4⟩ := T.mostLength
    obtain ⟨t5, h5⟩ := T.mostFigures
    obtain ⟨t6, h6⟩ := T.mostMembers
    refine has1_of F (fun D _ _ _ _ _ _ us its h1 h2 => match us, its, h1, h2 with | [_], [_], _, _ => ⟨_, rfl, rfl⟩) (fun D _ _ _ _ _ _ us its h1 h2 => match us, its, h1, h2 with | [_, _], [_], _, _ => ⟨_, rfl, rfl⟩) (fun f fd F => ?_)
    refine F.ok scPart (fun vs H Q E h => ?_) (fun cdv A outer s H vs Q E hr h => ?_)
    · obtain ⟨t, v, dep, _, _, rfl, _⟩ := h
      rfl
    · obtain ⟨t, v, dep, hd, hg, rfl, hdep, ht, q⟩ := h
      have hr1 := hr.mono (show 1 ≤ d + 2 by omega)
      have hr2 := hr.mono (show 2 ≤ d + 2 by omega)
      suffices ∃ t, PSs (bodyX P w K mg base "checked_part" nPart 19 f cdv A outer s H E) (defBody (topS 19)) t ∧ t { nx := fun _ H' => Q .non H', rt := Q } (start nPart [v, .int dep]) H from
        let ⟨t, a, b⟩ := this
        ⟨t, PSs.nox a, b⟩
      refine ⟨_, pss_cons (ps_expr (pe_h CR hr1 (by rfl) (pa_cons (pe_and (pe_cmpR op_le (pv 1) (pnI h1) (nomark _)) (pe_and (pe_cmpR op_gt (pe_callB call_len_seq (by rfl) T.len PySem.boot_len (pa_cons (pv 0) pa_nil)) pe_int (nomark _))
          (pe_and (pe_cmpR (op_in_kd D) (pxT (K := K) (pv 0) pe_int) (pn (v := .ref md) M.g rfl) (by with_unfolding_all rfl))
          (pe_one (pe_cmpR op_eq (pe_callB call_len_seq (by rfl) T.len PySem.boot_len (pa_cons (pv 0) pa_nil)) (pe_ix ix_kdict (pn (v := .ref md) M.g rfl) (pxT (K := K) (pv 0) pe_int) (fun _ _ => rfl)) (nomark _)))))) pa_nil)))
        (pss_cons (ps_if (pt_cmpR op_eq (pxT (K := K) (pv 0) pe_int) pe_str (nomark _))
          (pss_cons (ps_asg (pe_h C hr (by rfl) (pa_cons (pxT (K := K) (pv 0) pe_int) (pa_cons (pe_op op_add (pv 1) pe_int) pa_nil))) (pg_tup (by rfl) (pgs_cons (pg_name (i := 2) scPart.nd rfl (.inl rfl)) (pgs_cons (pg_name (i := 3) scPart.nd rfl (.inl rfl)) (pgs_cons (pg_name (i := 4) scPart.nd rfl (.inl rfl)) (pgs_cons (pg_name (i := 5) scPart.nd rfl (.inl rfl)) pgs_nil))))))
          (pss_cons (ps_asg (pe_h C hr (by rfl) (pa_cons (pxT (K := K) (pv 0) pe_int) (pa_cons (pe_op op_add (pv 1) pe_int) pa_nil))) (pg_tup (by rfl) (pgs_cons (pg_name (i := 6) scPart.nd rfl (.inl rfl)) (pgs_cons (pg_name (i := 7) scPart.nd rfl (.inl rfl)) (pgs_cons (pg_name (i := 8) scPart.nd rfl (.inl rfl)) (pgs_cons (pg_name (i := 9) scPart.nd rfl (.inl rfl)) pgs_nil))))))
          (pss_cons (ps_expr (pe_h CR hr1 (by rfl) (pa_cons (pe_and (pe_cmpR op_lt (pe_op op_add (pv 3) (pv 7)) (pnI h1) (nomark _)) (pe_and (pe_cmpR op_le (pe_op op_mul (pv 4) (pv 8)) (pnI h2) (nomark _)) (pe_one (pe_cmpR op_le (pe_op op_mul (pv 5) (pv 9)) (pnI h3) (nomark _))))) pa_nil)))
          (pss_one (ps_ret (pe_tup (pa_cons (pe_tup (pa_cons pe_str (pa_cons (pv 2) (pa_cons (pv 6) pa_nil)))) (pa_cons (pe_op op_add (pe_op op_add (pv 3) (pv 7)) pe_int) (pa_cons (pe_op op_mul (pv 4) (pv 8)) (pa_cons (pe_op op_mul (pv 5) (pv 9)) pa_nil)))))))))) pss_nil)
        (pss_cons (ps_if (pt_cmpR op_eq (pxT (K := K) (pv 0) pe_int) pe_str (nomark _))
          (pss_cons (ps_set (i := 10) scPart.nd rfl (.inl rfl) (pe_h CC hr2 (by rfl) (pa_cons (pxT (K := K) (pv 0) pe_int) pa_nil)))
          (pss_one (ps_ret (pe_tup (pa_cons (pe_tup (pa_cons pe_str (pa_cons (pv 10) pa_nil))) (pa_cons pe_int (pa_cons (pe_callB call_len_seq (by rfl) T.len PySem.boot_len (pa_cons (pv 10) pa_nil))
            (pa_cons (pe_op op_add (pe_callB (cr_maxT rfl) (by rfl) T.max (by decide +kernel) (pa_cons (pxT (K := K) (pv 10) pe_int) pa_nil)) pe_int) pa_nil)))))))) pss_nil)
        (pss_cons (ps_asg (pv 0) (pg_tup (by rfl) (pgs_cons (pg_name (i := 11) scPart.nd rfl (.inl rfl)) (pgs_cons (pg_name (i := 12) scPart.nd rfl (.inl rfl)) (pgs_cons (pg_name (i := 13) scPart.nd rfl (.inl rfl)) pgs_nil)))))
        (pss_cons (ps_if (pt_cmpR op_eq (pxT (K := K) (pv 0) pe_int) pe_str (nomark _))
          (pss_cons (ps_expr (pe_h CR hr1 (by rfl) (pa_cons (pe_and (pe_chain op_le op_le pe_int (pv 12) (pnI h4)) (pe_one (pe_chain op_le op_le pe_int (pv 13) (pnI h5)))) pa_nil)))
          (pss_one (ps_set (i := 4) scPart.nd rfl (.inl rfl) (pe_h C2 hr1 (by rfl) (pa_cons (pv 13) (pa_cons (pv 12) pa_nil))))))
          (pss_cons (ps_expr (pe_h CR hr1 (by rfl) (pa_cons (pe_and (pe_cmpR op_le pe_int (pv 13) (nomark _)) (pe_one (pe_chain op_le op_le (pe_op op_mul pe_int (pv 13)) (pv 12) (pnI h6)))) pa_nil)))
          (pss_one (ps_set (i := 4) scPart.nd rfl (.inl rfl) (pe_h C1 hr1 (by rfl) (pa_cons (pv 12) (pa_cons (pv 13) pa_nil)))))))
        (pss_cons (ps_expr (pe_h CR hr1 (by rfl) (pa_cons (pe_cmpR op_le (pv 4) (pnI h2) (nomark _)) pa_nil)))
        (pss_one (ps_ret (pe_tup (pa_cons (pe_tup (pa_cons (pxT (K := K) (pv 0) pe_int) (pa_cons (pv 12) (pa_cons (pv 13) pa_nil)))) (pa_cons pe_int (pa_cons (pv 4)
          (pa_cons (pe_op op_add (pe_ifExp (pt_cmpR op_eq (pxT (K := K) (pv 0) pe_int) pe_str (nomark _)) (pv 12) (pv 13)) pe_int) pa_nil)))))))))))), ?_⟩
      -- the first require
      have first : ∀ (a : Addr) (xs : List V) (tag : Str) (n : Int) (G : Hp → Prop), v = .ref a → SqT K H a (.str tag :: xs) → (tag, n) ∈ ([("words", 3), ("sets", 3), ("listed", 2), ("product", 3)] : List (Str × Int)) → (xs.length : Int) + 1 = n → G H →
          tCall spRequire [] E0 (tCons (tAndV (tOp (rI0 fun i j => .bl (decide (i ≤ j))) (tVar 1) (tC (.int 8))) (tAndV (tOp (rI0 fun i j => .bl (decide (j < i))) (tCB (rLenK K) (tCons (tVar 0) tNil)) (tC (.int 0)))
            (tAndV (tOp (fun x y H Q => ∃ (z : Str) (r : Option Value), x = .str z ∧ y = .ref md ∧ PySem.W.nsIn K md z = some r ∧ Q (.bl r.isSome) H) (tOp (rIxT K) (tVar 0) (tC (.int 0))) (tC (.ref md)))
              (tOp rEq (tCB (rLenK K) (tCons (tVar 0) tNil)) (tOp (rIxD K w) (tC (.ref md)) (tOp (rIxT K) (tVar 0) (tC (.int 0)))))))) tNil) (start nPart [v, .int dep]) H (fun _ H1 => G H1) := by
        rintro a xs tag n G rfl hS hm hn hG
        obtain ⟨u, hu, ru⟩ := M.v _ hm
        refine ⟨_, rfl, _, _, rfl, rfl, true, congrArg V.bl (decide_eq_true (by omega)), iteT ?_⟩
        refine ⟨_, rfl, a, _, rfl, .inr hS, _, _, rfl, rfl, true, congrArg V.bl (decide_eq_true (by rw [List.length_cons]; omega)), iteT ?_⟩
        refine ⟨_, rfl, a, _, 0, .str tag, rfl, rfl, hS, atI_nat (j := 0) rfl, tag, some u, rfl, rfl, hu, true, rfl, iteT ?_⟩
        refine ⟨_, rfl, a, _, rfl, .inr hS, _, rfl, a, _, 0, .str tag, rfl, rfl, hS, atI_nat (j := 0) rfl, md, tag, .int n, rfl, rfl, ⟨es, nn, u, D.at_, D.lit, hu, ru⟩, rfl, ?_⟩
        refine ⟨congrArg (fun z => [V.bl z]) (decide_eq_true ?_), hG⟩
        rw [List.length_cons, ← hn]
        rfl
      have big : (2 : Int) ^ 60 ≤ 10 ^ 60 := by decide +kernel
      have gp := Tr.good_pts hg
      have gk := Tr.good_kn hg
      cases t with
      | words n x =>
        obtain ⟨a, rfl, hS⟩ := ht
        obtain ⟨_, hn, hx⟩ := (hg : 1 ≤ n ∧ n ≤ 12 ∧ x ≤ 18)
        refine first a _ "words" 3 _ rfl hS (by decide) rfl ?_
        refine ⟨_, rfl, a, _, 0, vW, rfl, rfl, hS, atI_nat (j := 0) rfl, rfl, _, rfl, iteD nWP ?_⟩
        refine ⟨_, rfl, a, _, 0, vW, rfl, rfl, hS, atI_nat (j := 0) rfl, rfl, _, rfl, iteD nWL ?_⟩
        refine ⟨_, rfl, a, _, rfl, hS, rfl, vW, _, rfl, .int n, _, rfl, .int (x + 2 : Nat), [], rfl, rfl, ?_⟩
        refine ⟨_, rfl, a, _, 0, vW, rfl, rfl, hS, atI_nat (j := 0) rfl, rfl, _, rfl, iteE rfl ?_⟩
        refine ⟨.int n, rfl, _, _, rfl, rfl, true, congrArg V.bl (decide_eq_true (by omega)), iteT ?_⟩
        refine ⟨_, _, rfl, rfl, true, congrArg V.bl (decide_eq_true (by omega)), iteT ?_⟩
        refine ⟨.int (x + 2 : Nat), rfl, _, _, rfl, rfl, true, congrArg V.bl (decide_eq_true (by omega)), iteT ?_⟩
        refine ⟨_, _, rfl, rfl, ?_⟩
        refine ⟨congrArg (fun z => [V.bl z]) (decide_eq_true (by omega)), ?_⟩
        refine ⟨.int (x + 2 : Nat), rfl, .int n, rfl, x + 2, n, rfl, by omega, by omega, ?_⟩
        have gp' : (x + 2) ^ n ≤ 2 ^ 60 := gp
        refine ⟨_, rfl, _, _, rfl, rfl, congrArg (fun z => [V.bl z]) (decide_eq_true (by omega)), ?_⟩
        refine ⟨_, rfl, a, _, 0, vW, rfl, rfl, hS, atI_nat (j := 0) rfl, .int n, rfl, .int (x + 2 : Nat), rfl, by show 3 ≤ sizeLine; decide, fun p1 n1 => ?_⟩
        have s1 : Same H (upd H p1 (.tup [vW, .int n, .int (x + 2 : Nat)])) := Same.fresh n1
        refine ⟨_, rfl, _, rfl, a, _, 0, vW, rfl, rfl, Same.tp s1 hS, atI_nat (j := 0) rfl, rfl, _, rfl, iteE rfl ?_⟩
        refine ⟨.int n, rfl, _, _, rfl, rfl, by show 4 ≤ sizeLine; decide, fun p2 n2 => ?_⟩
        exact q _ p2 (.ref p1) (s1.trans (Same.fresh n2)) tpU ⟨p1, rfl, Same.tp (Same.fresh n2) tpU⟩
      | sets n m =>
        obtain ⟨a, rfl, hS⟩ := ht
        obtain ⟨hm1, hm, hm2, hm3⟩ := (hg : 1 ≤ m ∧ m ≤ 8 ∧ 2 * m ≤ n ∧ n ≤ 2 * m + 8)
        refine first a _ "sets" 3 _ rfl hS (by decide) rfl ?_
        refine ⟨_, rfl, a, _, 0, vS, rfl, rfl, hS, atI_nat (j := 0) rfl, rfl, _, rfl, iteD nSP ?_⟩
        refine ⟨_, rfl, a, _, 0, vS, rfl, rfl, hS, atI_nat (j := 0) rfl, rfl, _, rfl, iteD nSL ?_⟩
        refine ⟨_, rfl, a, _, rfl, hS, rfl, vS, _, rfl, .int n, _, rfl, .int m, [], rfl, rfl, ?_⟩
        refine ⟨_, rfl, a, _, 0, vS, rfl, rfl, hS, atI_nat (j := 0) rfl, rfl, _, rfl, iteD nSW ?_⟩
        refine ⟨.int m, rfl, _, _, rfl, rfl, true, congrArg V.bl (decide_eq_true (by omega)), iteT ?_⟩
        refine ⟨.int m, rfl, _, _, rfl, rfl, .inl ⟨by omega, by omega⟩, .int n, rfl, _, _, rfl, rfl, true, congrArg V.bl (decide_eq_true (by omega)), iteT ?_⟩
        refine ⟨_, _, rfl, rfl, ?_⟩
        refine ⟨congrArg (fun z => [V.bl z]) (decide_eq_true (by omega)), ?_⟩
        refine ⟨.int n, rfl, .int m, rfl, n, (m : Int), rfl, by omega, ?_⟩
        rw [chz_nat]
        have gp' : Mth.C n m ≤ 2 ^ 60 := gp
        refine ⟨_, rfl, _, _, rfl, rfl, congrArg (fun z => [V.bl z]) (decide_eq_true (by omega)), ?_⟩
        refine ⟨_, rfl, a, _, 0, vS, rfl, rfl, hS, atI_nat (j := 0) rfl, .int n, rfl, .int m, rfl, by show 3 ≤ sizeLine; decide, fun p1 n1 => ?_⟩
        have s1 : Same H (upd H p1 (.tup [vS, .int n, .int m])) := Same.fresh n1
        refine ⟨_, rfl, _, rfl, a, _, 0, vS, rfl, rfl, Same.tp s1 hS, atI_nat (j := 0) rfl, rfl, _, rfl, iteD nSW ?_⟩
        refine ⟨.int m, rfl, _, _, rfl, rfl, by show 4 ≤ sizeLine; decide, fun p2 n2 => ?_⟩
        exact q _ p2 (.ref p1) (s1.trans (Same.fresh n2)) tpU ⟨p1, rfl, Same.tp (Same.fresh n2) tpU⟩
      | listed e R =>
        obtain ⟨a, b, rfl, hS, hB⟩ := ht
        have ok : TabOk e R := hg
        refine first a _ "listed" 2 _ rfl hS (by decide) rfl ?_
        refine ⟨_, rfl, a, _, 0, vL, rfl, rfl, hS, atI_nat (j := 0) rfl, rfl, _, rfl, iteD nLP ?_⟩
        refine ⟨_, rfl, a, _, 0, vL, rfl, rfl, hS, atI_nat (j := 0) rfl, rfl, _, rfl, iteE rfl ?_⟩
        refine ⟨_, rfl, a, _, 1, .ref b, rfl, rfl, hS, atI_nat (j := 1) rfl, e, R, b, rfl, ok, hB, fun H1 b1 s1 hB1 => ?_⟩
        refine ⟨.ref b1, rfl, by show 2 ≤ sizeLine; decide, fun p1 n1 => ?_⟩
        have s2 : Same H1 (upd H1 p1 (.tup [vL, .ref b1])) := Same.fresh n1
        obtain ⟨rs, hb, hR⟩ := hB1.same s2
        obtain ⟨r, r0, r1⟩ := rows_get hR ok.spos
        refine ⟨.ref b1, rfl, b1, _, rfl, .inr hb, ?_⟩
        refine ⟨.ref b1, rfl, b1, _, 0, .ref r, rfl, rfl, hb, atI_nat (j := 0) r0, r, R.getD 0 [], rfl, r1.sq, List.length_pos_of_mem (ok.occ 0 ok.dpos), fun m hm hle => ⟨_, _, rfl, rfl, by show 4 ≤ sizeLine; decide, fun p2 n2 => ?_⟩⟩
        have s3 : Same (upd H1 p1 (.tup [vL, .ref b1])) _ := Same.fresh (o := .tup [.ref p1, .int 1, .int ((rs.map V.ref).length : Nat), .int (m + 1)]) n2
        refine q _ p2 (.ref p1) (s1.trans (s2.trans s3)) ?_ ⟨p1, b1, rfl, Same.tp s3 tpU, RowsAt.same s3 ⟨rs, hb, hR⟩⟩
        have e1 : (rs.map V.ref).length = R.length := by
          rw [List.length_map]
          exact Paired.len hR
        have e2 := top_kind ok hm hle
        show SqT K _ p2 [.ref p1, .int 1, .int (R.length : Nat), .int (e : Nat)]
        rw [← e1, ← e2]
        exact tpU
      | prod s' t' =>
        obtain ⟨a, y, z, rfl, hS, g1, g2⟩ := ht
        obtain ⟨ga, gb, k1, k2, p1, lb⟩ := good_parts hg
        have hd : max s'.depth t'.depth + 1 < d + 1 := hd
        have na : np s' = 1 := by
          obtain ⟨⟨n, x, rfl, _⟩, _⟩ := hg
          rfl
        have nb := np_leaf lb
        have pb := Tr.leaf_pts lb
        have gp' : s'.pts * t'.pts ≤ 2 ^ 60 := gp
        have gk' : s'.kn * t'.kn ≤ 39 := gk
        refine first a _ "product" 3 _ rfl hS (by decide) rfl ?_
        refine ⟨_, rfl, a, _, 0, vP, rfl, rfl, hS, atI_nat (j := 0) rfl, rfl, _, rfl, iteE rfl ?_⟩
        have hdep : dep + (max s'.depth t'.depth + 1) ≤ 7 := hdep
        refine ⟨_, rfl, a, _, 1, y, rfl, rfl, hS, atI_nat (j := 1) rfl, .int dep, rfl, _, _, rfl, rfl, s', y, dep + 1, by omega, ga, rfl, by omega, g1, fun H1 r1 y1 s1 q1 ht1 => ?_⟩
        refine ⟨r1, _, rfl, q1, rfl, y1, _, rfl, .int (np s' : Nat), _, rfl, .int (s'.pts : Nat), _, rfl, .int (s'.kn : Nat), [], rfl, rfl, ?_⟩
        refine ⟨_, rfl, a, _, 2, z, rfl, rfl, Same.tp s1 hS, atI_nat (j := 2) rfl, .int dep, rfl, _, _, rfl, rfl, t', z, dep + 1, by omega, gb, rfl, by omega, g2.same s1, fun H2 r2 z2 s2 q2 ht2 => ?_⟩
        refine ⟨r2, _, rfl, q2, rfl, z2, _, rfl, .int (np t' : Nat), _, rfl, .int (t'.pts : Nat), _, rfl, .int (t'.kn : Nat), [], rfl, rfl, ?_⟩
        refine ⟨_, rfl, _, rfl, _, _, rfl, rfl, _, _, rfl, rfl, true, congrArg V.bl (decide_eq_true (by omega)), iteT ?_⟩
        refine ⟨_, rfl, _, rfl, _, _, rfl, rfl, cmulL (by omega), _, _, rfl, rfl, true, congrArg V.bl (decide_eq_true ?_), iteT ?_⟩
        · rw [← Int.natCast_mul]
          omega
        refine ⟨_, rfl, _, rfl, _, _, rfl, rfl, cmulL (by omega), _, _, rfl, rfl, ?_⟩
        refine ⟨congrArg (fun z => [V.bl z]) (decide_eq_true ?_), ?_⟩
        · rw [← Int.natCast_mul]
          omega
        refine ⟨_, rfl, _, rfl, by show 3 ≤ sizeLine; decide, fun p1 n1 => ?_⟩
        refine ⟨_, rfl, _, rfl, _, _, rfl, rfl, _, _, rfl, rfl, _, rfl, _, rfl, _, _, rfl, rfl, cmulL (by omega), _, rfl, _, rfl, _, _, rfl, rfl, cmulL (by omega), by show 4 ≤ sizeLine; decide, fun p2 n2 => ?_⟩
        have s3 : Same H2 (upd H2 p1 (.tup [vP, y1, z2])) := Same.fresh n1
        have s4 := Same.fresh (o := .tup [.ref p1, .int ((np s' : Nat) + (np t' : Nat) + 1), .int ((s'.pts : Nat) * (t'.pts : Nat)), .int ((s'.kn : Nat) * (t'.kn : Nat))]) n2
        refine q _ p2 (.ref p1) (s1.trans (s2.trans (s3.trans s4))) ?_ ⟨p1, y1, z2, rfl, Same.tp s4 tpU, (((ht1.same s2).same s3).same s4), (ht2.same s3).same s4⟩
        show SqT K _ p2 [.ref p1, .int ((np s' + np t' + 1 : Nat)), .int ((s'.pts * t'.pts : Nat)), .int ((s'.kn * t'.kn : Nat))]
        rw [Int.natCast_mul, Int.natCast_mul, Int.natCast_add, Int.natCast_add]
        exact tpU
end
end K17

set_option Elab.async false
set_option linter.all false
set_option maxRecDepth 100000
set_option maxHeartbeats 4000000
namespace K17
open PySem PySem.Spec PyProof.Rows L2 Mth RZ
theorem Paired.snoc {α β : Type} {F : α → β → Prop} {a : α} {b : β} (h : F a b) : ∀ {l : List α} {m : List β}, Paired F l m → Paired F (l ++ [a]) (m ++ [b])
  | _, _, .nil => .cons h .nil
  | _, _, .cons r t => .cons r (Paired.snoc h t)
/-- the table of the numbers for the kind k -/
def nrow (t : Tr) (k i : Nat) : List Int := (List.range t.kn).map fun j => ((t.p i j k : Nat) : Int)
def ntab (t : Tr) (k : Nat) : List (List Int) := (List.range t.kn).map fun i => nrow t k i
theorem nrow_vl (t : Tr) (k i : Nat) : (nrow t k i).map V.int = vl t.kn fun j => .int (t.p i j k : Nat) := by
  unfold nrow vl
  rw [List.map_map]
  rfl
theorem ntab_take {t : Tr} {k i : Nat} (h : i < t.kn) : (ntab t k).take (i + 1) = (ntab t k).take i ++ [nrow t k i] := by
  rw [List.take_add_one]
  unfold ntab
  rw [List.getElem?_map, List.getElem?_range h]
  rfl
section
variable {P : Program} {w : World} {K : PySem.W.Frag} {mg : Str → Option Value} {base : Heap}
/-! ### checked, point_count -/
def spChecked (K : PySem.W.Frag) : Sp := fun vs H Q _ => ∃ (t : Tr) (v : V), t.Good ∧ vs = [v] ∧ TreeAt K H t v ∧ ∀ H' v', Same H H' → TreeAt K H' t v' → Q v' H'
theorem scChecked : FnScope ["tree"] ["tree"] (defScope (topS 20)) := ⟨rfl, rfl, rfl, by decide +kernel, rfl, by decide +kernel, by decide +kernel⟩
theorem has_checked (F : Fn K mg "checked" 20) (C : Has1 P w K mg base "checked_part" ["tree", "depth"] (.int 1) 4 (spPart K 2)) : Has P w K mg base "checked" ["tree"] 5 (spChecked K) := by
  refine has_mk F scChecked (fun _ _ _ _ _ _ us hl => match us, hl with | [_], _ => rfl) (fun vs H Q E h => ?_) (fun f cdv A outer s H vs Q E hr h => ?_)
  · obtain ⟨t, v, _, rfl, _⟩ := h
    rfl
  · obtain ⟨t, v, hg, rfl, ht, q⟩ := h
    refine ⟨_, pss_one (ps_ret (pxT (K := K) (pe_h1 C hr (by rfl) (pa_cons (pv 0) pa_nil)) pe_int)), ?_⟩
    have hd := Tr.good_depth hg
    exact ⟨v, rfl, t, v, 1, by omega, hg, rfl, by omega, ht, fun H1 p v1 s1 hp h1 => ⟨p, _, 0, v1, rfl, rfl, hp, atI_nat (j := 0) rfl, q H1 v1 s1 h1⟩⟩
def spPoints (K : PySem.W.Frag) : Sp := fun vs H Q _ => ∃ (t : Tr) (v : V), t.Good ∧ vs = [v] ∧ TreeAt K H t v ∧ ∀ H', Same H H' → Q (.int (t.pts : Nat)) H'
theorem scPoints : FnScope ["tree"] ["tree"] (defScope (topS 21)) := ⟨rfl, rfl, rfl, by decide +kernel, rfl, by decide +kernel, by decide +kernel⟩
theorem has_points (F : Fn K mg "point_count" 21) (C : Has1 P w K mg base "checked_part" ["tree", "depth"] (.int 1) 4 (spPart K 2)) : Has P w K mg base "point_count" ["tree"] 5 (spPoints K) := by
  refine has_mk F scPoints (fun _ _ _ _ _ _ us hl => match us, hl with | [_], _ => rfl) (fun vs H Q E h => ?_) (fun f cdv A outer s H vs Q E hr h => ?_)
  · obtain ⟨t, v, _, rfl, _⟩ := h
    rfl
  · obtain ⟨t, v, hg, rfl, ht, q⟩ := h
    refine ⟨_, pss_one (ps_ret (pxT (K := K) (pe_h1 C hr (by rfl) (pa_cons (pv 0) pa_nil)) pe_int)), ?_⟩
    have hd := Tr.good_depth hg
    exact ⟨v, rfl, t, v, 1, by omega, hg, rfl, by omega, ht, fun H1 p v1 s1 hp h1 => ⟨p, _, 2, _, rfl, rfl, hp, atI_nat (j := 2) rfl, q H1 s1⟩⟩
/-! ### checked_kinds -/
def spCk (K : PySem.W.Frag) : Sp := fun vs H Q _ => ∃ (t : Tr) (v : V) (b : Addr) (ks : List Nat), t.Good ∧ vs = [v, .ref b] ∧ TreeAt K H t v ∧ SqT K H b (ks.map fun k : Nat => V.int (k : Int)) ∧ ks.length ≤ 10 ∧ (∀ k ∈ ks, k < t.kn) ∧
  ∀ H' v', Same H H' → TreeAt K H' t v' → Q v' H'
abbrev nCk : List Str := ["tree", "kinds", "whole", "many", "kind"]
theorem scCk : FnScope nCk ["tree", "kinds"] (defScope (topS 29)) := ⟨rfl, rfl, rfl, by decide +kernel, rfl, by decide +kernel, by decide +kernel⟩
theorem has_ck (F : Fn K mg "checked_kinds" 29) (T : Txt K mg) (C : Has P w K mg base "checked" ["tree"] 5 (spChecked K)) (CK : Has P w K mg base "kinds_of" ["tree"] 2 (spKinds K 2)) : Has P w K mg base "checked_kinds" ["tree", "kinds"] 6 (spCk K) := by
  refine has_mk F scCk (fun _ _ _ _ _ _ us hl => match us, hl with | [_, _], _ => rfl) (fun vs H Q E h => ?_) (fun f cdv A outer s H vs Q E hr h => ?_)
  · obtain ⟨t, v, b, ks, _, rfl, _⟩ := h
    rfl
  · obtain ⟨t, v, b, ks, hg, rfl, ht, hB, hl, hk, q⟩ := h
    have hr2 := hr.mono (show 2 ≤ 5 by decide)
    refine ⟨_, pss_cons (ps_set (i := 2) scCk.nd rfl (.inl rfl) (pe_h C hr (by rfl) (pa_cons (pv 0) pa_nil)))
      (pss_cons (ps_set (i := 3) scCk.nd rfl (.inr rfl) (pe_h CK hr2 (by rfl) (pa_cons (pv 2) pa_nil)))
      (pss_cons (ps_if (pt_not (pt_val (pe_callB (cr_all rfl) (by rfl) T.all (by decide +kernel) (pa_cons (pe_lc (own := [("kind", 4)]) (g := gName 4) (by rfl) scCk.nd (pi_tup (pv 1))
          (blkOk_by (own := [("kind", 4)]) (N := nCk) (sc := defScope (topS 29)) (by decide +kernel)) (fun _ _ _ _ _ => pg_name (i := 4) scCk.nd rfl (Or.inl rfl)) (fun _ _ _ _ _ => pts_nil)
          (fun _ _ _ _ _ => pe_chain op_le op_lt pe_int (pv 4) (pv 3))) pa_nil)))) pss_never pss_nil)
      (pss_one (ps_ret (pv 2))))), ?_⟩
    have hd := Tr.good_depth hg
    refine ⟨v, rfl, t, v, hg, rfl, ht, fun H1 v1 s1 h1 => ?_⟩
    refine ⟨v1, rfl, t, v1, by omega, hg, rfl, h1, ?_⟩
    have hB1 := Same.tp s1 hB
    refine ⟨.ref b, rfl, b, rfl, ⟨_, hB1⟩, fun D nD => ?_⟩
    refine lc_tup (K := K) (a := b) (xs := ks.map fun k : Nat => V.int (k : Int)) (Upto H1 D fun _ => .bl true) (Upto.zero nD) (fun i H' _ u => Same.tp u.1 hB1) (fun i x H' hx u => ?_) (fun H2 u => ?_)
    · have hi : i < ks.length := by
        have := (List.getElem?_eq_some_iff.mp hx).1
        rwa [List.length_map] at this
      rw [List.getElem?_map, List.getElem?_eq_getElem hi] at hx
      have ex := (Option.some.inj hx).symm
      subst ex
      have hlt := hk _ (List.getElem_mem hi)
      refine ⟨rfl, tYesI ?_⟩
      refine iteT ?_
      refine ⟨_, rfl, _, _, rfl, rfl, true, congrArg V.bl (decide_eq_true (by omega)), iteT ?_⟩
      refine ⟨.int (t.kn : Nat), rfl, _, _, rfl, rfl, _, u.2, by rw [vl_len]; exact small1000 (by omega), ?_⟩
      exact u.put nD (Same.refl _) (congrArg V.bl (decide_eq_true (by omega)))
    · rw [List.length_map] at u
      refine ⟨D, List.replicate ks.length true, rfl, .inl (.inl (by rw [u.2, vl_true])), ?_⟩
      refine ⟨true, congrArg V.bl (List.all_eq_true.mpr fun z hz => by rw [(List.mem_replicate.mp hz).2]; rfl), ?_⟩
      refine iteF ?_
      exact ⟨v1, rfl, q H2 v1 (s1.trans u.1) (h1.same u.1)⟩
/-! ### valencies, ways_for -/
def spVals (K : PySem.W.Frag) : Sp := fun vs H Q _ => ∃ (t : Tr) (v : V), t.Good ∧ vs = [v] ∧ TreeAt K H t v ∧ ∀ H' p, Same H H' → PlainT H' p (vints t) → Q (.ref p) H'
theorem scVals : FnScope ["tree"] ["tree"] (defScope (topS 30)) := ⟨rfl, rfl, rfl, by decide +kernel, rfl, by decide +kernel, by decide +kernel⟩
theorem has_vals (F : Fn K mg "valencies" 30) (C : Has P w K mg base "checked" ["tree"] 5 (spChecked K)) (CV : Has P w K mg base "valencies_of" ["tree"] 3 (spVal K 2)) : Has P w K mg base "valencies" ["tree"] 6 (spVals K) := by
  refine has_mk F scVals (fun _ _ _ _ _ _ us hl => match us, hl with | [_], _ => rfl) (fun vs H Q E h => ?_) (fun f cdv A outer s H vs Q E hr h => ?_)
  · obtain ⟨t, v, _, rfl, _⟩ := h
    rfl
  · obtain ⟨t, v, hg, rfl, ht, q⟩ := h
    have hr3 := hr.mono (show 3 ≤ 5 by decide)
    refine ⟨_, pss_one (ps_ret (pe_h CV hr3 (by rfl) (pa_cons (pe_h C hr (by rfl) (pa_cons (pv 0) pa_nil)) pa_nil))), ?_⟩
    have hd := Tr.good_depth hg
    exact ⟨v, rfl, t, v, hg, rfl, ht, fun H1 v1 s1 h1 => ⟨t, v1, by omega, hg, rfl, h1, fun H2 p s2 hp => q H2 p (s1.trans s2) hp⟩⟩
def spWf (K : PySem.W.Frag) : Sp := fun vs H Q _ => ∃ (t : Tr) (v : V) (i j k : Nat), t.Good ∧ vs = [v, .int i, .int j, .int k] ∧ TreeAt K H t v ∧ i < t.kn ∧ j < t.kn ∧ k < t.kn ∧ ∀ H', Same H H' → Q (.int (t.p i j k : Nat)) H'
theorem scWf : FnScope ["tree", "i", "j", "k"] ["tree", "i", "j", "k"] (defScope (topS 31)) := ⟨rfl, rfl, rfl, by decide +kernel, rfl, by decide +kernel, by decide +kernel⟩
theorem has_wf (F : Fn K mg "ways_for" 31) (C : Has P w K mg base "checked_kinds" ["tree", "kinds"] 6 (spCk K)) (CN : Has P w K mg base "number_in" ["tree", "i", "j", "k"] 4 (spNum K 2)) : Has P w K mg base "ways_for" ["tree", "i", "j", "k"] 7 (spWf K) := by
  refine has_mk F scWf (fun _ _ _ _ _ _ us hl => match us, hl with | [_, _, _, _], _ => rfl) (fun vs H Q E h => ?_) (fun f cdv A outer s H vs Q E hr h => ?_)
  · obtain ⟨t, v, i, j, k, _, rfl, _⟩ := h
    rfl
  · obtain ⟨t, v, i, j, k, hg, rfl, ht, hi, hj, hk, q⟩ := h
    have hr4 := hr.mono (show 4 ≤ 6 by decide)
    refine ⟨_, pss_one (ps_ret (pe_h CN hr4 (by rfl) (pa_cons (pe_h C hr (by rfl) (pa_cons (pv 0) (pa_cons (pe_tup (pa_cons (pv 1) (pa_cons (pv 2) (pa_cons (pv 3) pa_nil)))) pa_nil))) (pa_cons (pv 1) (pa_cons (pv 2) (pa_cons (pv 3) pa_nil)))))), ?_⟩
    have hd := Tr.good_depth hg
    refine ⟨v, rfl, .int i, rfl, .int j, rfl, .int k, rfl, by show 3 ≤ sizeLine; decide +kernel, fun p np => ?_⟩
    refine ⟨t, v, p, [i, j, k], hg, rfl, ht.same (Same.fresh np), tpU, by show 3 ≤ 10; decide, fun z hz => ?_, fun H1 v1 s1 h1 => ?_⟩
    · rcases List.mem_cons.mp hz with e | hz
      · omega
      · rcases List.mem_cons.mp hz with e | hz
        · omega
        · rw [List.mem_singleton.mp hz]
          exact hk
    · exact ⟨.int i, rfl, .int j, rfl, .int k, rfl, t, v1, i, j, k, by omega, hg, rfl, h1, hi, hj, hk, fun H2 s2 => q H2 ((Same.fresh np).trans (s1.trans s2))⟩
/-! ### numbers_of -/
def spNof (K : PySem.W.Frag) : Sp := fun vs H Q _ => ∃ (t : Tr) (v : V) (k : Nat), t.Good ∧ vs = [v, .int k] ∧ TreeAt K H t v ∧ k < t.kn ∧ ∀ H' p, Same H H' → RowsAt K H' p (ntab t k) → Q (.ref p) H'
abbrev nNof : List Str := ["tree", "k", "whole", "many", "i", "j"]
abbrev scI : Scope := { kind := .function, names := [(".0", .local), ("i", .cell), ("tuple", .globalImplicit), ("k", .cell), ("many", .cell), ("whole", .cell)], isGenerator := false, isCoroutine := false }
abbrev scJ : Scope := { kind := .function, names := [(".0", .local), ("j", .local), ("number_in", .globalImplicit), ("i", .free), ("k", .free), ("whole", .free)], isGenerator := false, isCoroutine := false }
theorem scNof : FnScope nNof ["tree", "k"] (defScope (topS 32)) := ⟨rfl, rfl, rfl, by decide +kernel, rfl, by decide +kernel, by decide +kernel⟩
theorem has_nof (F : Fn K mg "numbers_of" 32) (T : Txt K mg) (C : Has P w K mg base "checked_kinds" ["tree", "kinds"] 6 (spCk K)) (CK : Has P w K mg base "kinds_of" ["tree"] 2 (spKinds K 2)) (CN : Has P w K mg base "number_in" ["tree", "i", "j", "k"] 4 (spNum K 2)) :
    Has P w K mg base "numbers_of" ["tree", "k"] 7 (spNof K) := by
  refine has_mk F scNof (fun _ _ _ _ _ _ us hl => match us, hl with | [_, _], _ => rfl) (fun vs H Q E h => ?_) (fun f cdv A outer s H vs Q E hr h => ?_)
  · obtain ⟨t, v, k, _, rfl, _⟩ := h
    rfl
  · obtain ⟨t, v, k, hg, rfl, ht, hk, q⟩ := h
    have hr4 := hr.mono (show 4 ≤ 6 by decide)
    have hr2 := hr.mono (show 2 ≤ 6 by decide)
    refine ⟨_, pss_cons (ps_set (i := 2) scNof.nd rfl (.inr rfl) (pe_h C hr (by rfl) (pa_cons (pv 0) (pa_cons (pe_tup (pa_cons (pv 1) pa_nil)) pa_nil))))
      (pss_cons (ps_set (i := 3) scNof.nd rfl (.inr rfl) (pe_callTy cr_range1V (by rfl) T.range (by decide +kernel) (pa_cons (pe_h CK hr2 (by rfl) (pa_cons (pv 2) pa_nil)) pa_nil)))
      (pss_one (ps_ret (pe_callTy call_tupleP (by rfl) T.tuple (by decide +kernel) (pa_cons (pe_lc (own := [("i", 4)]) (g := gName 4) (by rfl) scNof.nd (pi_rngV (pv 3))
          (blkOk_by (own := [("i", 4)]) (N := nNof) (sc := defScope (topS 32)) (by decide +kernel)) (fun _ _ _ _ _ => pg_name (i := 4) scNof.nd rfl (Or.inr rfl)) (fun _ _ _ _ _ => pts_nil)
          (te := tCB (rTupP K) (tCons (tLc (iRngV (tVar 3)) (gName 5) tYes (tCall (spNum K 2) [] E0 (tCons (tVar 2) (tCons (tVar 4) (tCons (tVar 5) (tCons (tVar 1) tNil))))) [5]) tNil))
          (fun _ _ _ _ _ => pe_callTy call_tupleP (by rfl) T.tuple (by decide +kernel) (pa_cons (pe_lc (own := [("j", 5)]) (g := gName 5) (by rfl) scNof.nd (pi_rngV (pv 3))
            (blkOk_by (own := [("j", 5)]) (N := nNof) (sc := scI) (scope := scJ) (by decide +kernel)) (fun _ _ _ _ _ => pg_name (i := 5) scNof.nd rfl (Or.inl rfl)) (fun _ _ _ _ _ => pts_nil)
            (fun _ _ _ _ _ => pe_h CN hr4 (by rfl) (pa_cons (pv 2) (pa_cons (pv 4) (pa_cons (pv 5) (pa_cons (pv 1) pa_nil)))))) pa_nil))) pa_nil))))), ?_⟩
    have hd := Tr.good_depth hg
    have kn39 := Tr.good_kn hg
    refine ⟨v, rfl, .int k, rfl, by show 1 ≤ sizeLine; decide, fun p0 n0 => ?_⟩
    have s0 : Same H (upd H p0 (.tup [.int k])) := Same.fresh n0
    refine ⟨t, v, p0, [k], hg, rfl, ht.same s0, tpU, by show 1 ≤ 10; decide, fun z hz => by rw [List.mem_singleton.mp hz]; exact hk, fun H1 v1 s1 h1 => ?_⟩
    refine ⟨v1, rfl, t, v1, by omega, hg, rfl, h1, (t.kn : Int), rfl, fun m nm => ?_⟩
    have s2 : Same H1 (upd H1 m (.rng 0 (t.kn : Int))) := Same.fresh nm
    have hm : (upd H1 m (.rng 0 (t.kn : Int))) m = some (.rng 0 (t.kn : Int)) := upd_same
    have h2 := h1.same s2
    have sA := s0.trans (s1.trans s2)
    generalize upd H1 m (.rng 0 (t.kn : Int)) = H2 at s2 hm h2 sA
    refine ⟨.ref m, rfl, m, 0, (t.kn : Int), rfl, hm, ⟨by omega, by omega, by omega, by omega⟩, fun D nD => ?_⟩
    refine lc_range (lo := 0) (n := ((t.kn : Int) - 0).toNat) (fun i H' => Same H2 H' ∧ ∃ rs : List Addr, H' D = some (.lst (rs.map V.ref)) ∧ rs.length = i ∧ Paired (fun r row => PlainT H' r (row.map V.int)) rs ((ntab t k).take i))
      ⟨Same.fresh nD, [], upd_same, rfl, .nil⟩ (fun i H' hi ⟨sH, rs, eD, el, hp⟩ => ?_) (fun H' ⟨sH, rs, eD, el, hp⟩ => ?_)
    · have hi : i < t.kn := by omega
      refine ⟨rfl, tYesI ?_⟩
      refine iteT ?_
      refine ⟨.ref m, rfl, m, 0, (t.kn : Int), rfl, sH _ _ hm, ⟨by omega, by omega, by omega, by omega⟩, fun D2 nD2 => ?_⟩
      refine lc_range (lo := 0) (n := ((t.kn : Int) - 0).toNat) (Upto H' D2 fun j => .int (t.p i j k : Nat)) (Upto.zero nD2) (fun j H3 hj u => ?_) (fun H3 u => ?_)
      · have hj : j < t.kn := by omega
        refine ⟨rfl, tYesI ?_⟩
        refine iteT ?_
        refine ⟨v1, rfl, .int (0 + (i : Int)), rfl, .int (0 + (j : Int)), rfl, .int k, rfl, t, v1, i, j, k, by omega, hg, args4 rfl (Int.zero_add _) (Int.zero_add _) rfl, (h2.same sH).same u.1, hi, hj, hk, fun H4 s4 => ?_⟩
        exact ⟨_, s4 _ _ u.2, by rw [vl_len]; exact small1000 (by omega), u.put nD2 s4 rfl⟩
      · refine ⟨D2, _, rfl, .inl (.inl u.2), fun l o nl pl => ?_⟩
        rw [show ((t.kn : Int) - 0).toNat = t.kn by omega, ← nrow_vl] at pl
        have s4 : Same H' (upd H3 l o) := u.1.trans (Same.fresh nl)
        refine ⟨_, s4 _ _ eD, by rw [List.length_map, el]; exact small1000 (by omega), ?_⟩
        have nDl : D ≠ l := ne_of_none (u.1 _ _ eD) nl
        have keep : ∀ (r : Addr) (xs : List V), PlainT (upd H3 l o) r xs → PlainT (upd (upd H3 l o) D (.lst (rs.map V.ref ++ [.ref l]))) r xs := fun r xs ⟨ob, hb, z⟩ => ⟨ob, by rw [upd_ne (ne_of hb (s4 _ _ eD) (fun z => nomatch z))]; exact hb, z⟩
        refine ⟨Same.put (sH.trans s4) nD, rs ++ [l], by rw [upd_same, List.map_append]; rfl, by rw [List.length_append, el]; rfl, ?_⟩
        rw [ntab_take hi]
        exact Paired.snoc (F := fun (r : Addr) (row : List Int) => PlainT _ r (row.map V.int)) (keep l ((nrow t k i).map V.int) pl) (Paired.imp (fun r (row : List Int) (z : PlainT H' r (row.map V.int)) => keep r _ (PlainT.same s4 z)) hp)
    · rw [show ((t.kn : Int) - 0).toNat = t.kn by omega] at el hp
      have full : (ntab t k).take t.kn = ntab t k := List.take_of_length_le (by unfold ntab; rw [List.length_map, List.length_range]; exact Nat.le_refl _)
      rw [full] at hp
      refine ⟨D, _, rfl, .inl (.inl eD), fun l o nl pl => ?_⟩
      exact q _ l (sA.trans (sH.trans (Same.fresh nl))) ⟨rs, pl.sq, Paired.imp (fun r (row : List Int) (z : PlainT H' r (row.map V.int)) => PlainT.same (Same.fresh nl) z) hp⟩
end
end K17

set_option Elab.async false
set_option linter.all false
set_option maxRecDepth 100000
set_option maxHeartbeats 4000000
namespace K17
open PySem PySem.Spec PyProof.Rows L2 Mth RZ
section
variable {P : Program} {w : World} {K : PySem.W.Frag} {mg : Str → Option Value} {base : Heap}
theorem app_ints (ns : List Int) (z : Int) : ns.map V.int ++ [V.int z] = (ns ++ [z]).map V.int := by
  rw [List.map_append]
  rfl
theorem posZ {n : Int} (h : 0 < n) : 0 < n := h
/-! ### _law_row -/
def spRow : Sp := fun vs H Q _ => ∃ (c : Int) (m : Nat), vs = [.int c, .int m] ∧ m ≤ 100 ∧ ∀ H' (l : Addr) (ns : List Int), Same H H' → H l = none → H' l = some (.lst (ns.map V.int)) → ns.length = m → Q (.ref l) H'
abbrev nRow : List Str := ["_law_cell", "_law_many", "_law_row_here", "_law_rest", "_law_mixed", "_law_k"]
theorem scRow : FnScope nRow ["_law_cell", "_law_many"] (defScope (topS 34)) := ⟨rfl, rfl, rfl, by decide +kernel, rfl, by decide +kernel, by decide +kernel⟩
theorem has_row (F : Fn K mg "_law_row" 34) (T : Txt K mg) : Has P w K mg base "_law_row" ["_law_cell", "_law_many"] 1 spRow := by
  refine has_mk F scRow (fun _ _ _ _ _ _ us hl => match us, hl with | [_, _], _ => rfl) (fun vs H Q E h => ?_) (fun f cdv A outer s H vs Q E hr h => ?_)
  · obtain ⟨c, m, rfl, _⟩ := h
    rfl
  · obtain ⟨c, m, rfl, hm, q⟩ := h
    refine ⟨_, pss_cons (ps_set (i := 2) scRow.nd rfl (.inl rfl) (pe_lst pa_nil))
      (pss_cons (ps_set (i := 3) scRow.nd rfl (.inl rfl) (pe_callB call_abs (by rfl) T.abs (by decide +kernel) (pa_cons (pv 0) pa_nil)))
      (pss_cons (ps_set (i := 4) scRow.nd rfl (.inl rfl) (pe_op op_mod (pe_callTy call_int1 (by rfl) T.int (by decide +kernel) (pa_cons (pe_op op_add (pe_op op_mul (pv 3) pe_int) pe_int) pa_nil)) pe_int))
      (pss_cons (ps_for PassesOwn.never rfl (pi_range1 rfl T.range (pa_cons (pv 1) pa_nil)) (pg_name (i := 5) scRow.nd rfl (.inl rfl))
        (pss_cons (ps_set (i := 4) scRow.nd rfl (.inl rfl) (pe_op op_mod (pe_callTy call_int1 (by rfl) T.int (by decide +kernel) (pa_cons (pe_op op_add (pe_op op_mul (pv 4) pe_int) (pe_op op_mul pe_int (pe_op op_add (pv 5) pe_int))) pa_nil)) pe_int))
        (pss_one (ps_if (pt_cmpR op_ge (pe_callB call_abs (by rfl) T.abs (by decide +kernel) (pa_cons (pv 0) pa_nil)) (pe_op op_pow pe_int pe_int) (nomark _))
          (pss_cons (ps_expr (pe_bm PySem.F.plainAttrs_list PySem.F.slot_list_append PySem.F.type_list_append mt_append (pv 2) (pa_cons (pe_op op_mod (pe_callTy call_int1 (by rfl) T.int (by decide +kernel) (pa_cons (pv 3) pa_nil)) pe_int) pa_nil)))
            (pss_one (ps_set (i := 3) scRow.nd rfl (.inl rfl) (pe_op op_fdiv (pv 3) pe_int))))
          (pss_one (ps_expr (pe_bm PySem.F.plainAttrs_list PySem.F.slot_list_append PySem.F.type_list_append mt_append (pv 2) (pa_cons (pe_op op_mod (pe_callTy call_int1 (by rfl) T.int (by decide +kernel) (pa_cons (pe_op op_fdiv (pv 4) pe_int) pa_nil)) pe_int) pa_nil))))))))
      (pss_one (ps_ret (pv 2)))))), ?_⟩
    refine ⟨Nat.zero_le _, fun l nl => ?_⟩
    refine ⟨.int c, rfl, c, rfl, ?_⟩
    refine ⟨_, rfl, _, _, rfl, rfl, .inr ⟨by decide, by decide⟩, _, _, rfl, rfl, .inl ⟨_, rfl, _, _, rfl, rfl, posZ (by decide), ?_⟩⟩
    refine ⟨.int m, rfl, (m : Int), rfl, by omega, by omega, ?_⟩
    refine for_range (lo := 0) (n := (m : Int).toNat) (fun i σ H' => ∃ (r x : Int) (v5 : Option V) (ns : List Int), σ = [some (.int c), some (.int m), some (.ref l), some (.int r), some (.int x), v5] ∧ Same H H' ∧ H' l = some (.lst (ns.map V.int)) ∧ ns.length = i)
      ⟨_, _, none, [], rfl, Same.fresh nl, upd_same, rfl⟩ ?_ ?_
    · rintro i σ H' hi ⟨r, x, v5, ns, rfl, sH, hl, el⟩
      have hi : i < m := by omega
      refine ⟨_, rfl, _, _, rfl, rfl, .inr ⟨by decide, by decide⟩, _, rfl, _, _, rfl, rfl, _, _, rfl, rfl, .inl ⟨by decide, by decide⟩, _, _, rfl, rfl, .inl ⟨_, rfl, _, _, rfl, rfl, posZ (by decide), ?_⟩⟩
      refine ⟨.int c, rfl, c, rfl, _, _, rfl, rfl, ⟨by decide, by decide, by decide⟩, _, _, rfl, rfl, _, rfl, ?_⟩
      have lt : (ns.map V.int).length < sizeLine := by
        rw [List.length_map, el]
        exact small1000 (by omega)
      by_cases ge : (10 : Int) ^ (18 : Int).toNat ≤ (if c < 0 then -c else c)
      · refine iteE ge ?_
        refine ⟨.ref l, rfl, .inl ⟨rfl, _, .inl (.inl hl)⟩, .int r, rfl, .inl ⟨_, rfl, _, _, rfl, rfl, posZ (by decide), ?_⟩⟩
        refine ⟨l, _, _, rfl, rfl, hl, lt, ?_⟩
        refine ⟨_, rfl, _, _, rfl, rfl, ⟨by decide, by decide⟩, ?_⟩
        exact ⟨_, _, _, ns ++ [_], rfl, Same.put sH nl, by rw [upd_same, app_ints], by rw [List.length_append, el]; rfl⟩
      · refine iteD ge ?_
        refine ⟨.ref l, rfl, .inl ⟨rfl, _, .inl (.inl hl)⟩, _, rfl, _, _, rfl, rfl, ⟨by decide, by decide⟩, .inl ⟨_, rfl, _, _, rfl, rfl, posZ (by decide), ?_⟩⟩
        refine ⟨l, _, _, rfl, rfl, hl, lt, ?_⟩
        exact ⟨_, _, _, ns ++ [_], rfl, Same.put sH nl, by rw [upd_same, app_ints], by rw [List.length_append, el]; rfl⟩
    · rintro σ H' ⟨r, x, v5, ns, rfl, sH, hl, el⟩
      exact ⟨.ref l, rfl, q H' l ns sH nl hl (by omega)⟩
/-! ### _law_numbers -/
theorem cut_le (cs : List Int) (k : Nat) : cutV (cs.map V.int) none (some (k : Int)) = (cs.take k).map V.int := by
  unfold cutV
  rw [HT.sIx_none, HT.sIx_nat, List.drop_zero, List.length_map, Nat.sub_zero, List.map_take, ← List.length_map (f := V.int) (as := cs)]
  exact List.take_eq_take_iff.mpr (by rw [Nat.min_assoc, Nat.min_self])
def spNumbers (K : PySem.W.Frag) : Sp := fun vs H Q _ => ∃ (a : Addr) (cs : List Int), vs = [.ref a, .int 60] ∧ SqL K H a (cs.map V.int) ∧ ∀ H' (l : Addr) (ns : List Int), Same H H' → H' l = some (.lst (ns.map V.int)) → ns.length = 60 → Q (.ref l) H'
abbrev nNumbers : List Str := ["_law_script", "_law_many", "_law_cells", "_law_each", "_law_numbers_here", "_law_cell", "_law_number"]
theorem scNumbers : FnScope nNumbers ["_law_script", "_law_many"] (defScope (topS 35)) := ⟨rfl, rfl, rfl, by decide +kernel, rfl, by decide +kernel, by decide +kernel⟩
theorem has_numbers (F : Fn K mg "_law_numbers" 35) (T : Txt K mg) (C : Has P w K mg base "_law_row" ["_law_cell", "_law_many"] 1 spRow) : Has P w K mg base "_law_numbers" ["_law_script", "_law_many"] 2 (spNumbers K) := by
  refine has_mk F scNumbers (fun _ _ _ _ _ _ us hl => match us, hl with | [_, _], _ => rfl) (fun vs H Q E h => ?_) (fun f cdv A outer s H vs Q E hr h => ?_)
  · obtain ⟨a, cs, rfl, _⟩ := h
    rfl
  · obtain ⟨a, cs0, rfl, hS, q⟩ := h
    refine ⟨_, pss_cons (ps_set (i := 2) scNumbers.nd rfl (.inl rfl) (pe_slice sl_list (pv 0) po_none (po_some pe_int)))
      (pss_cons (ps_set (i := 3) scNumbers.nd rfl (.inl rfl) (pe_op op_add pe_int (pe_op op_fdiv (pv 1) (pe_callB (call_max2 (by rfl)) (by rfl) T.max (by decide +kernel) (pa_cons pe_int (pa_cons (pe_callB call_len_seq (by rfl) T.len PySem.boot_len (pa_cons (pv 2) pa_nil)) pa_nil))))))
      (pss_cons (ps_set (i := 4) scNumbers.nd rfl (.inl rfl) (pe_lst pa_nil))
      (pss_cons (ps_for PassesOwn.never rfl (pi_list (pv 2)) (pg_name (i := 5) scNumbers.nd rfl (.inl rfl))
        (pss_one (ps_for PassesOwn.never rfl (pi_list (pe_h C hr (by rfl) (pa_cons (pv 5) (pa_cons (pv 3) pa_nil)))) (pg_name (i := 6) scNumbers.nd rfl (.inl rfl))
          (pss_one (ps_expr (pe_bm PySem.F.plainAttrs_list PySem.F.slot_list_append PySem.F.type_list_append mt_append (pv 4) (pa_cons (pv 6) pa_nil)))))))
      (pss_cons (ps_while PassesOwn.never (pt_cmpR op_lt (pe_callB call_len_seq (by rfl) T.len PySem.boot_len (pa_cons (pv 4) pa_nil)) (pv 1) (nomark _))
        (pss_one (ps_expr (pe_bm PySem.F.plainAttrs_list PySem.F.slot_list_append PySem.F.type_list_append mt_append (pv 4) (pa_cons pe_int pa_nil)))))
      (pss_one (ps_ret (pe_slice sl_list (pv 4) po_none (po_some (pv 1)))))))))  , ?_⟩
    refine ⟨.ref a, rfl, 63, rfl, a, _, rfl, hS, fun p np => ?_⟩
    have ec : cutV (cs0.map V.int) none (some 63) = (cs0.take 63).map V.int := cut_le cs0 63
    have hcs : (cs0.take 63).length ≤ 63 := List.length_take_le _ _
    have s1 : Same H (upd H p (.lst (cutV (cs0.map V.int) none (some 63)))) := Same.fresh np
    have hp : (upd H p (.lst (cutV (cs0.map V.int) none (some 63)))) p = some (.lst ((cs0.take 63).map V.int)) := by rw [upd_same, ec]
    generalize cs0.take 63 = cs at hcs hp
    generalize upd H p (.lst (cutV (cs0.map V.int) none (some 63))) = H1 at s1 hp
    obtain ⟨M, hM1, hM2, eM⟩ : ∃ M : Nat, 1 ≤ M ∧ M ≤ 63 ∧ (if ((cs.map V.int).length : Int) > 1 then ((cs.map V.int).length : Int) else 1) = (M : Int) := by
      rw [List.length_map]
      by_cases e : ((cs.length : Nat) : Int) > 1
      · exact ⟨cs.length, by omega, by omega, if_pos e⟩
      · exact ⟨1, by omega, by omega, if_neg e⟩
    refine ⟨.int 60, rfl, .ref p, rfl, p, _, rfl, .inl (.inl (.inl hp)), 1, _, rfl, ?_⟩
    rw [eM]
    refine ⟨_, _, rfl, rfl, ⟨by omega, by omega⟩, _, _, rfl, rfl, ?_⟩
    obtain ⟨m, hm, em⟩ : ∃ m : Nat, m ≤ 100 ∧ (1 : Int) + 60 / (M : Int) = (m : Int) := by
      have e1 := Nat.div_le_self 60 M
      have e2 : ((60 / M : Nat) : Int) = (60 : Int) / (M : Int) := Int.natCast_ediv 60 M
      exact ⟨1 + 60 / M, by omega, by omega⟩
    show gName 3 (V.int (1 + 60 / (M : Int))) _ _ _
    rw [em]
    refine ⟨Nat.zero_le _, fun o no => ?_⟩
    have nop : o ≠ p := fun e => by rw [e, hp] at no; cases no
    have s2 : Same H1 (upd H1 o (.lst [])) := Same.fresh no
    refine ⟨.ref p, rfl, p, rfl, ⟨_, .inl (.inl (s2 _ _ hp))⟩, for_list (K := K) (a := p) (xs := cs.map V.int) (fun i σ H' => ∃ (v5 v6 : Option V) (ns : List Int), σ = [some (.ref a), some (.int 60), some (.ref p), some (.int m), some (.ref o), v5, v6] ∧ Same H1 H' ∧ H' o = some (.lst (ns.map V.int)) ∧ ns.length = i * m)
      ⟨none, none, [], rfl, s2, upd_same, by rw [Nat.zero_mul]; rfl⟩ (fun i σ H' _ ⟨_, _, _, _, h, _⟩ => .inl (.inl (h _ _ hp))) ?_ ?_⟩
    · rintro i x σ H' hi ⟨v5, v6, ns, rfl, sH, ho, el⟩
      obtain ⟨z, gz, rfl⟩ := int_at hi
      have hi : i < cs.length := (List.getElem?_eq_some_iff.mp gz).1
      have big : i * m ≤ 6300 := Nat.mul_le_mul (show i ≤ 63 by omega) hm
      refine ⟨.int z, rfl, .int m, rfl, z, m, rfl, hm, fun H2 l ns2 s3 nl hl el2 => ?_⟩
      have nol : o ≠ l := ne_of_none ho nl
      refine ⟨l, rfl, ⟨_, .inl (.inl hl)⟩, for_list (K := K) (a := l) (xs := ns2.map V.int) (fun j σ H' => ∃ (v6 : Option V) (ns : List Int), σ = [some (.ref a), some (.int 60), some (.ref p), some (.int m), some (.ref o), some (.int z), v6] ∧ Same H1 H' ∧ H' l = some (.lst (ns2.map V.int)) ∧ H' o = some (.lst (ns.map V.int)) ∧ ns.length = i * m + j)
        ⟨v6, ns, rfl, sH.trans s3, hl, s3 _ _ ho, el⟩ (fun i σ H' _ ⟨_, _, _, _, h, _⟩ => .inl (.inl h)) ?_ ?_⟩
      · rintro j y σ H3 hj ⟨v6, ns, rfl, sH, hl, ho, el⟩
        obtain ⟨z2, gz2, rfl⟩ := int_at hj
        have hj : j < ns2.length := (List.getElem?_eq_some_iff.mp gz2).1
        refine ⟨.ref o, rfl, .inl ⟨rfl, _, .inl (.inl ho)⟩, .int z2, rfl, o, _, _, rfl, rfl, ho, by rw [List.length_map, el]; exact Nat.lt_of_lt_of_le (show i * m + j < 10000 by omega) (by decide +kernel), ?_⟩
        exact ⟨_, ns ++ [z2], rfl, Same.put sH no, by rw [upd_ne nol.symm]; exact hl, by rw [upd_same, app_ints], by rw [List.length_append, el]; rfl⟩
      · rintro σ H3 ⟨v6, ns, rfl, sH, hl, ho, el⟩
        refine ⟨_, _, ns, rfl, sH, ho, ?_⟩
        rw [el, List.length_map, el2, Nat.succ_mul]
    · rintro σ H' ⟨v5, v6, ns, rfl, sH, ho, el⟩
      have big : cs.length * m ≤ 6300 := Nat.mul_le_mul hcs hm
      rw [List.length_map] at el
      have el : ns.length ≤ 6300 := by omega
      refine ⟨fun n σ H' => ∃ ns : List Int, σ = [some (.ref a), some (.int 60), some (.ref p), some (.int m), some (.ref o), v5, v6] ∧ Same H1 H' ∧ H' o = some (.lst (ns.map V.int)) ∧ ns.length ≤ 6300 ∧ n = 60 - ns.length, ⟨_, ns, rfl, sH, ho, el, rfl⟩, ?_⟩
      rintro n σ H2 ⟨ns, rfl, sH, ho, el, rfl⟩
      refine ⟨.ref o, rfl, o, _, rfl, .inl (.inl (.inl ho)), .int 60, rfl, _, _, rfl, rfl, _, rfl, ?_⟩
      rw [List.length_map]
      by_cases c : (ns.length : Int) < 60
      · refine iteE c ?_
        refine ⟨fun σ H' => ∃ ns2 : List Int, σ = [some (.ref a), some (.int 60), some (.ref p), some (.int m), some (.ref o), v5, v6] ∧ Same H1 H' ∧ H' o = some (.lst (ns2.map V.int)) ∧ ns2.length = ns.length + 1, fun σ' H' ⟨ns2, e1, e2, e3, e4⟩ => ⟨60 - ns2.length, by omega, ns2, e1, e2, e3, by omega, rfl⟩, ?_⟩
        refine ⟨.ref o, rfl, .inl ⟨rfl, _, .inl (.inl ho)⟩, o, _, _, rfl, rfl, ho, by rw [List.length_map]; exact small1000 (by omega), ?_⟩
        exact ⟨ns ++ [0], rfl, Same.put sH no, by rw [upd_same, app_ints], by rw [List.length_append]; rfl⟩
      · refine iteD c ?_
        refine ⟨.ref o, rfl, .int 60, rfl, 60, rfl, o, _, rfl, .inl (.inl ho), fun r nr => ?_⟩
        refine q _ r (ns.take 60) (s1.trans (sH.trans (Same.fresh nr))) (by rw [upd_same]; exact congrArg (fun z => some (HO.lst z)) (cut_le ns 60)) ?_
        rw [List.length_take]
        omega
end
end K17

set_option Elab.async false
set_option linter.all false
set_option maxRecDepth 100000
set_option maxHeartbeats 4000000
namespace K17
open PySem PySem.Spec PyProof.Rows L2 Mth RZ
section
variable {P : Program} {w : World} {K : PySem.W.Frag} {mg : Str → Option Value} {base : Heap}
theorem tp_put {K : PySem.W.Frag} {H : Hp} {D r : Addr} {ys xs : List V} {o : HO} (hD : H D = some (.lst ys)) (h : SqT K H r xs) : SqT K (upd H D o) r xs := by
  rcases h with (h | ⟨o, h⟩) | h
  · exact .inl (.inl (by rw [upd_ne (ne_of h hD (fun z => nomatch z))]; exact h))
  · exact .inl (.inr ⟨o, by rw [upd_ne (ne_of h hD (fun z => nomatch z))]; exact h⟩)
  · exact .inr h
/-! ### _law_sets -/
abbrev PairsT (K : PySem.W.Frag) (H : Hp) (rs : List Addr) (F : List (List Int)) : Prop := Paired (fun (r : Addr) (one : List Int) => SqT K H r (one.map V.int)) rs F
def SetsAt (K : PySem.W.Frag) (H : Hp) (l : Addr) (F : List (List Int)) : Prop := ∃ rs : List Addr, H l = some (.lst (rs.map V.ref)) ∧ PairsT K H rs F
theorem PairsT.same {H H' : Hp} {rs : List Addr} {F : List (List Int)} (e : Same H H') (h : PairsT K H rs F) : PairsT K H' rs F := Paired.imp (fun _ _ z => Same.tp e z) h
theorem PairsT.put {H : Hp} {D : Addr} {ys : List V} {o : HO} {rs : List Addr} {F : List (List Int)} (hD : H D = some (.lst ys)) (h : PairsT K H rs F) : PairsT K (upd H D o) rs F := Paired.imp (fun _ _ z => tp_put hD z) h
theorem SetsAt.same {H H' : Hp} {l : Addr} {F : List (List Int)} (e : Same H H') (h : SetsAt K H l F) : SetsAt K H' l F :=
  let ⟨rs, h1, h2⟩ := h
  ⟨rs, e _ _ h1, PairsT.same e h2⟩
def gen : Nat → List (List Int)
  | 0 => [[]]
  | t + 1 => longer 5 (gen t)
theorem gen_ok : ∀ t, t < 2 → ∀ i, i < (gen t).length → (longer 5 ((gen t).take i)).length ≤ 20 ∧ 0 ≤ nxt ((gen t).getD i []) ∧ nxt ((gen t).getD i []) ≤ 5 ∧ ((gen t).getD i []).length ≤ 2 := by decide +kernel
theorem longer_snoc {n : Int} {F : List (List Int)} {i : Nat} {one : List Int} (h : F[i]? = some one) : longer n (F.take (i + 1)) = longer n (F.take i) ++ ext1 n one := by
  unfold longer
  rw [List.take_add_one, h, List.flatMap_append]
  show _ ++ List.flatMap _ [one] = _
  rw [List.flatMap_singleton]
theorem ext_take {n : Int} {one : List Int} {j : Nat} (h : j < (n - nxt one).toNat) : (ext1 n one).take (j + 1) = (ext1 n one).take j ++ [one ++ [nxt one + (j : Int)]] := by
  rw [List.take_add_one]
  congr 1
  unfold ext1
  rw [List.getElem?_map, List.getElem?_range h]
  rfl
theorem ext_len (n : Int) (one : List Int) : (ext1 n one).length = (n - nxt one).toNat := by
  unfold ext1
  rw [List.length_map, List.length_range]
theorem at_last {one : List Int} {z : Int} (h : one.getLast? = some z) : atI (one.map V.int) (-1) = some (.int z) := by
  rw [List.getLast?_eq_getElem?] at h
  have hl : 0 < one.length := by
    have := (List.getElem?_eq_some_iff.mp h).1
    omega
  unfold atI ixN
  rw [if_neg (by omega), if_pos (by rw [List.length_map]; omega), List.length_map]
  show (one.map V.int)[((-1 : Int) + (one.length : Int)).toNat]? = _
  rw [show ((-1 : Int) + (one.length : Int)).toNat = one.length - 1 by omega, List.getElem?_map, h]
  rfl
def spSet (K : PySem.W.Frag) : Sp := fun vs H Q _ => vs = [.int 5, .int 2] ∧ ∀ H' (l : Addr), Same H H' → SetsAt K H' l pairs → Q (.ref l) H'
abbrev nSet : List Str := ["_law_n", "_law_k", "_law_found", "_law_turn", "_law_longer", "_law_one", "_law_r"]
theorem scSet : FnScope nSet ["_law_n", "_law_k"] (defScope (topS 36)) := ⟨rfl, rfl, rfl, by decide +kernel, rfl, by decide +kernel, by decide +kernel⟩
theorem has_lsets (F : Fn K mg "_law_sets" 36) (T : Txt K mg) : Has P w K mg base "_law_sets" ["_law_n", "_law_k"] 1 (spSet K) := by
  refine has_mk F scSet (fun _ _ _ _ _ _ us hl => match us, hl with | [_, _], _ => rfl) (fun vs H Q E h => ?_) (fun f cdv A outer s H vs Q E hr h => ?_)
  · obtain ⟨rfl, _⟩ := h
    rfl
  · obtain ⟨rfl, q⟩ := h
    refine ⟨_, pss_cons (ps_set (i := 2) scSet.nd rfl (.inl rfl) (pe_lst (pa_cons (pe_tup pa_nil) pa_nil)))
      (pss_cons (ps_for PassesOwn.never rfl (pi_range1 rfl T.range (pa_cons (pv 1) pa_nil)) (pg_name (i := 3) scSet.nd rfl (.inl rfl))
        (pss_cons (ps_set (i := 4) scSet.nd rfl (.inl rfl) (pe_lst pa_nil))
        (pss_cons (ps_for PassesOwn.never rfl (pi_list (pv 2)) (pg_name (i := 5) scSet.nd rfl (.inl rfl))
          (pss_one (ps_for PassesOwn.never rfl (pi_range2 rfl T.range (pa_cons (pe_ifExp (pt_cmpR op_gt (pe_callB call_len_seq (by rfl) T.len PySem.boot_len (pa_cons (pv 5) pa_nil)) pe_int (nomark _))
              (pe_op op_add (pe_callTy call_int1 (by rfl) T.int (by decide +kernel) (pa_cons (pxT (K := K) (pv 5) (pe_un un_neg pe_int)) pa_nil)) pe_int) pe_int) (pa_cons (pv 0) pa_nil))) (pg_name (i := 6) scSet.nd rfl (.inl rfl))
            (pss_one (ps_expr (pe_bm PySem.F.plainAttrs_list PySem.F.slot_list_append PySem.F.type_list_append mt_append (pv 4) (pa_cons (pe_op op_catA (pv 5) (pe_tup (pa_cons (pv 6) pa_nil))) pa_nil)))))))
        (pss_one (ps_set (i := 2) scSet.nd rfl (.inl rfl) (pv 4))))))
      (pss_one (ps_ret (pv 2)))), ?_⟩
    refine ⟨Nat.zero_le _, fun e ne => ⟨by show 1 ≤ sizeLine; decide +kernel, fun l nl => ?_⟩⟩
    have s1 : Same H (upd (upd H e (.tup [])) l (.lst [.ref e])) := (Same.fresh ne).trans (Same.fresh nl)
    have h0 : SetsAt K (upd (upd H e (.tup [])) l (.lst [.ref e])) l (gen 0) := ⟨[e], upd_same, .cons (Same.tp (Same.fresh nl) (xs := ([] : List Int).map V.int) tpU) .nil⟩
    refine ⟨.int 2, rfl, 2, rfl, by decide, by decide, ?_⟩
    refine for_range (lo := 0) (n := 2) (fun t σ H' => ∃ (l : Addr) (v3 v4 v5 v6 : Option V), σ = [some (.int 5), some (.int 2), some (.ref l), v3, v4, v5, v6] ∧ Same H H' ∧ SetsAt K H' l (gen t)) ⟨l, none, none, none, none, rfl, s1, h0⟩ ?_ ?_
    · rintro t σ H1 ht ⟨l, v3, v4, v5, v6, rfl, sH, rs, hl, hp⟩
      refine ⟨Nat.zero_le _, fun D nD => ?_⟩
      have nlD : l ≠ D := ne_of_none hl nD
      have sD : Same H1 (upd H1 D (.lst [])) := Same.fresh nD
      have len1 : rs.length = (gen t).length := Paired.len hp
      refine ⟨.ref l, rfl, l, rfl, ⟨_, .inl (.inl (sD _ _ hl))⟩, for_list (K := K) (a := l) (xs := rs.map V.ref) (fun i σ H' => ∃ (v5 v6 : Option V) (ss : List Addr), σ = [some (.int 5), some (.int 2), some (.ref l), some (.int (0 + (t : Int))), some (.ref D), v5, v6] ∧ Same H1 H' ∧ H' D = some (.lst (ss.map V.ref)) ∧ PairsT K H' ss (longer 5 ((gen t).take i)))
        ⟨v5, v6, [], rfl, sD, upd_same, .nil⟩ (fun i σ H' _ ⟨_, _, _, _, h, _⟩ => .inl (.inl (h _ _ hl))) ?_ ?_⟩
      · rintro i x σ H2 hi ⟨v5, v6, ss, rfl, sH2, hD, hs⟩
        have hi1 : i < (gen t).length := by
          have := (List.getElem?_eq_some_iff.mp hi).1
          rw [List.length_map, len1] at this
          exact this
        have go : (gen t)[i]? = some ((gen t).getD i []) := by
          rw [List.getD_eq_getElem?_getD, List.getElem?_eq_getElem hi1]
          rfl
        obtain ⟨r, gr, g1⟩ := Paired.get2 hp go
        rw [List.getElem?_map, gr] at hi
        have ex : V.ref r = x := Option.some.inj hi
        subst ex
        obtain ⟨b1, b2, b3, b4⟩ := gen_ok t ht i hi1
        generalize (gen t).getD i [] = one at g1 b2 b3 b4 go
        have h1 : SqT K H2 r (one.map V.int) := Same.tp sH2 g1
        have val : ∀ Q : VK, Q (.int (nxt one)) H2 → tIf (tTest (tOp (rI0 fun i j => V.bl (decide (j < i))) (tCB (rLenK K) (tCons (tVar 5) tNil)) (tC (.int 0))))
            (tOp (rI0 fun i j => V.int (i + j)) (tCB (fun xs H Q => (∃ i, xs = [.int i] ∧ Q (.int i) H) ∨ ∃ k, xs = [.bl k] ∧ Q (.int (if k then 1 else 0)) H) (tCons (tOp (rIxT K) (tVar 5) (tUn (rU fun i => .int (-i)) (tC (.int 1)))) tNil)) (tC (.int 1))) (tC (.int 0))
            [some (.int 5), some (.int 2), some (.ref l), some (.int (0 + (t : Int))), some (.ref D), some (.ref r), v6] H2 Q := by
          intro Q q
          refine ⟨.ref r, rfl, r, _, rfl, .inr h1, _, _, rfl, rfl, _, rfl, ?_⟩
          rw [List.length_map]
          match hg : one.getLast? with
          | none =>
            have e0 : one = [] := List.getLast?_eq_none_iff.mp hg
            subst e0
            exact iteD (by decide) q
          | some z =>
            have e1 : 0 < one.length := by
              rw [List.getLast?_eq_getElem?] at hg
              have := (List.getElem?_eq_some_iff.mp hg).1
              omega
            refine iteE (by omega) ?_
            refine ⟨.ref r, rfl, _, rfl, r, _, -1, .int z, rfl, rfl, h1, at_last hg, .inl ⟨_, rfl, _, _, rfl, rfl, ?_⟩⟩
            have en : nxt one = z + 1 := by
              unfold nxt
              rw [hg]
            rw [en] at q
            exact q
        refine val _ ?_
        refine ⟨.int 5, rfl, nxt one, 5, rfl, ⟨by omega, by omega, by decide, by decide⟩, ?_⟩
        refine for_range (lo := nxt one) (n := (5 - nxt one).toNat) (fun j σ H' => ∃ (v6 : Option V) (ss : List Addr), σ = [some (.int 5), some (.int 2), some (.ref l), some (.int (0 + (t : Int))), some (.ref D), some (.ref r), v6] ∧ Same H1 H' ∧ SqT K H' r (one.map V.int) ∧ H' D = some (.lst (ss.map V.ref)) ∧ PairsT K H' ss (longer 5 ((gen t).take i) ++ (ext1 5 one).take j))
          ⟨v6, ss, rfl, sH2, h1, hD, by rw [List.take_zero, List.append_nil]; exact hs⟩ ?_ ?_
        · rintro j σ H3 hj ⟨v6, ss, rfl, sH3, h1, hD, hs⟩
          have sl : ss.length ≤ 30 := by
            rw [Paired.len hs, List.length_append, List.length_take]
            omega
          have lt : (ss.map V.ref).length < sizeLine := by
            rw [List.length_map]
            exact small1000 (by omega)
          refine ⟨.ref D, rfl, .inl ⟨rfl, _, .inl (.inl hD)⟩, .ref r, rfl, .int (nxt one + (j : Int)), rfl, by show 1 ≤ sizeLine; decide +kernel, fun Z nZ => ?_⟩
          have sZ : Same H3 (upd H3 Z (.tup [.int (nxt one + (j : Int))])) := Same.fresh nZ
          have hZ : SqT K (upd H3 Z (.tup [.int (nxt one + (j : Int))])) Z [.int (nxt one + (j : Int))] := tpU
          have fin : ∀ (p : Addr) (H4 : Hp), Same H3 H4 → SqT K H4 p ((one ++ [nxt one + (j : Int)]).map V.int) → ∃ (v6' : Option V) (ss' : List Addr), [some (.int 5), some (.int 2), some (.ref l), some (.int (0 + (t : Int))), some (.ref D), some (.ref r), some (.int (nxt one + (j : Int)))] = [some (.int 5), some (.int 2), some (.ref l), some (.int (0 + (t : Int))), some (.ref D), some (.ref r), v6']
              ∧ Same H1 (upd H4 D (.lst (ss.map V.ref ++ [.ref p]))) ∧ SqT K (upd H4 D (.lst (ss.map V.ref ++ [.ref p]))) r (one.map V.int) ∧ (upd H4 D (.lst (ss.map V.ref ++ [.ref p]))) D = some (.lst (ss'.map V.ref)) ∧ PairsT K (upd H4 D (.lst (ss.map V.ref ++ [.ref p]))) ss' (longer 5 ((gen t).take i) ++ (ext1 5 one).take (j + 1)) := by
            intro p H4 s4 hp4
            have hD4 := s4 _ _ hD
            refine ⟨_, ss ++ [p], rfl, Same.put (sH3.trans s4) nD, tp_put hD4 (Same.tp s4 h1), by rw [upd_same, List.map_append]; rfl, ?_⟩
            rw [ext_take hj, ← List.append_assoc]
            exact Paired.snoc (F := fun (r : Addr) (one : List Int) => SqT K _ r (one.map V.int)) (tp_put hD4 hp4) (PairsT.put hD4 (PairsT.same s4 hs))
          refine ⟨r, Z, _, _, rfl, rfl, Same.tp sZ h1, hZ, by rw [List.length_map]; show one.length + 1 ≤ sizeLine; exact Nat.le_of_lt (small1000 (by omega)), fun e0 => ?_, fun _ e => ?_, fun _ _ p np => ?_⟩
          · refine ⟨D, _, _, rfl, rfl, sZ _ _ hD, lt, ?_⟩
            have e1 : one = [] := List.map_eq_nil_iff.mp e0
            exact fin Z _ sZ (by rw [e1] at hZ ⊢; exact hZ)
          · cases e
          · refine ⟨D, _, _, rfl, rfl, (sZ.trans (Same.fresh np)) _ _ hD, lt, ?_⟩
            refine fin p _ (sZ.trans (Same.fresh np)) ?_
            rw [List.map_append]
            exact tpU
        · rintro σ H3 ⟨v6, ss, rfl, sH3, h1, hD, hs⟩
          refine ⟨_, _, ss, rfl, sH3, hD, ?_⟩
          rw [longer_snoc go]
          rw [← ext_len, List.take_length] at hs
          exact hs
      · rintro σ H2 ⟨v5, v6, ss, rfl, sH2, hD, hs⟩
        refine ⟨.ref D, rfl, D, _, _, _, _, rfl, sH.trans sH2, ss, hD, ?_⟩
        rw [List.length_map, len1, List.take_length] at hs
        exact hs
    · rintro σ H1 ⟨l, v3, v4, v5, v6, rfl, sH, hs⟩
      refine ⟨.ref l, rfl, q H1 l sH ?_⟩
      rw [← longer_twice]
      exact hs
end
end K17

set_option Elab.async false
set_option linter.all false
set_option maxRecDepth 100000
set_option maxHeartbeats 4000000
namespace K17
open PySem PySem.Spec PyProof.Rows L2 Mth RZ
/-! ### tables made by two nested comprehensions -/
def TabAt (H : Hp) (l : Addr) (T : List (List Int)) : Prop := ∃ rs : List Addr, H l = some (.lst (rs.map V.ref)) ∧ Paired (fun (r : Addr) (row : List Int) => H r = some (.lst (row.map V.int))) rs T
theorem TabAt.same {H H' : Hp} {l : Addr} {T : List (List Int)} (e : Same H H') (h : TabAt H l T) : TabAt H' l T :=
  let ⟨rs, h1, h2⟩ := h
  ⟨rs, e _ _ h1, Paired.imp (fun _ _ z => e _ _ z) h2⟩
theorem nI {a b : Int} (h : a ≠ b) : ¬ V.int a = V.int b := fun e => h (V.int.inj e)
theorem eI {a b : Int} (h : a = b) : V.int a = V.int b := congrArg V.int h
theorem mk_row {n : Nat} {f : Int → Int → Int} (i : Nat) : ((List.range n).map fun (c : Nat) => f (i : Int) (c : Int)).map V.int = vl n fun c => .int (f (i : Int) (c : Int)) := by
  unfold vl
  rw [List.map_map]
  rfl
theorem mk_take {n : Nat} {f : Int → Int → Int} {i : Nat} (h : i < n) : (mk n f).take (i + 1) = (mk n f).take i ++ [(List.range n).map fun (c : Nat) => f (i : Int) (c : Int)] := by
  rw [List.take_add_one]
  congr 1
  unfold mk
  rw [List.getElem?_map, List.getElem?_range h]
  rfl
/-- the rows so far made, each a list of its own, none of them the list D that gathers them -/
def RowsD (D : Addr) (H : Hp) (rs : List Addr) (T : List (List Int)) : Prop := Paired (fun (r : Addr) (row : List Int) => r ≠ D ∧ H r = some (.lst (row.map V.int))) rs T
theorem RowsD.more {D l : Addr} {H' H3 : Hp} {rs : List Addr} {T : List (List Int)} {row : List Int} {o : HO} (h : RowsD D H' rs T) (e : Same H' H3) (n : l ≠ D) (hl : H3 l = some (.lst (row.map V.int))) : RowsD D (upd H3 D o) (rs ++ [l]) (T ++ [row]) :=
  Paired.snoc (F := fun (r : Addr) (row : List Int) => r ≠ D ∧ upd H3 D o r = some (.lst (row.map V.int))) ⟨n, by rw [upd_ne n]; exact hl⟩ (Paired.imp (fun r row z => ⟨z.1, by rw [upd_ne z.1]; exact e _ _ z.2⟩) h)
theorem RowsD.tab {D : Addr} {H : Hp} {rs : List Addr} {T : List (List Int)} (h : RowsD D H rs T) (e : H D = some (.lst (rs.map V.ref))) : TabAt H D T := ⟨rs, e, Paired.imp (fun _ _ z => z.2) h⟩
theorem tab_run {n : Nat} {E : TE} {f : Int → Int → Int} {v0 v1 v2 v3 v4 v5 v6 v7 v8 : Option V} {H : Hp} {Q : VK} (hn : n ≤ 10)
    (he : ∀ (r c : Nat) (H' : Hp) (Q : VK), Same H H' → r < n → c < n → Q (.int (f (r : Int) (c : Int))) H' → E [v0, v1, some (.int (0 + (r : Int))), some (.int (0 + (c : Int))), v4, v5, v6, v7, v8] H' Q)
    (q : ∀ H' l, Same H H' → TabAt H' l (mk n f) → Q (.ref l) H') :
    tLc (iRng1 (tCons (tC (.int n)) tNil)) (gName 2) tYes (tLc (iRng1 (tCons (tC (.int n)) tNil)) (gName 3) tYes E [3]) [2] [v0, v1, v2, v3, v4, v5, v6, v7, v8] H Q := by
  refine ⟨(n : Int), rfl, by omega, by omega, fun D nD => ?_⟩
  refine lc_range (lo := 0) (n := (n : Int).toNat) (fun i H' => Same H H' ∧ ∃ rs : List Addr, H' D = some (.lst (rs.map V.ref)) ∧ rs.length = i ∧ RowsD D H' rs ((mk n f).take i))
    ⟨Same.fresh nD, [], upd_same, rfl, .nil⟩ (fun i H' hi ⟨sH, rs, eD, el, hp⟩ => ?_) (fun H' ⟨sH, rs, eD, el, hp⟩ => ?_)
  · have hi : i < n := by omega
    refine ⟨rfl, tYesI ?_⟩
    refine iteT ?_
    refine ⟨(n : Int), rfl, by omega, by omega, fun D2 nD2 => ?_⟩
    have nDD : D2 ≠ D := (ne_of_none eD nD2).symm
    refine lc_range (lo := 0) (n := (n : Int).toNat) (Upto H' D2 fun j => .int (f (i : Int) (j : Int))) (Upto.zero nD2) (fun j H3 hj u => ?_) (fun H3 u => ?_)
    · have hj : j < n := by omega
      refine ⟨rfl, tYesI ?_⟩
      refine iteT ?_
      refine he i j H3 _ (sH.trans u.1) hi hj ?_
      exact ⟨_, u.2, by rw [vl_len]; exact small1000 (by omega), u.put nD2 (Same.refl _) rfl⟩
    · have e2 := u.2
      rw [show ((n : Nat) : Int).toNat = n by omega, ← mk_row] at e2
      refine ⟨_, u.1 _ _ eD, by rw [List.length_map, el]; exact small1000 (by omega), ?_⟩
      refine ⟨Same.put (sH.trans u.1) nD, rs ++ [D2], by rw [upd_same, List.map_append]; rfl, by rw [List.length_append, el]; rfl, ?_⟩
      rw [mk_take hi]
      exact hp.more u.1 nDD e2
  · have ml : (mk n f).length = n := by
      unfold mk
      rw [List.length_map, List.length_range]
    rw [show ((n : Nat) : Int).toNat = n by omega, List.take_of_length_le (by rw [ml]; exact Nat.le_refl _)] at hp
    exact q H' D sH (hp.tab eD)
section
variable {X : Cx}
theorem op_inK {K : PySem.W.Frag} (hK : X.K = K := by rfl) : OpR X (compareOp .In) (rIn K false) := by
  subst hK
  exact op_in_seq
end
theorem inV_int (z : Int) : ∀ b : List Int, inV (.int z) (b.map V.int) = decide (z ∈ b)
  | [] => by simp [inV]
  | y :: b => by
    have ih := inV_int z b
    show (y == z || inV (.int z) (b.map V.int)) = _
    rw [ih]
    by_cases e : y = z
    · subst e
      simp
    · have e2 : ¬ z = y := fun h => e h.symm
      simp [e, e2]
theorem vl_map (g : List Int → Int) : ∀ l : List (List Int), (vl l.length fun j => .int (g (l.getD j []))) = (l.map g).map V.int := by
  intro l
  unfold vl
  rw [List.map_map]
  refine List.ext_getElem (by simp) fun i h1 h2 => ?_
  rw [List.getElem_map, List.getElem_map, List.getElem_range]
  have hi : i < l.length := by rw [List.length_map] at h2; exact h2
  show V.int (g (l.getD i [])) = V.int (g l[i])
  rw [List.getD_eq_getElem?_getD, List.getElem?_eq_getElem hi]
  rfl
theorem t6_take {i : Nat} {a : List Int} (h : pairs[i]? = some a) : t6.take (i + 1) = t6.take i ++ [pairs.map fun b => com a b] := by
  rw [List.take_add_one]
  congr 1
  unfold t6
  rw [List.getElem?_map, h]
  rfl
theorem pair_len : ∀ i, i < 10 → (pairs.getD i []).length = 2 := by decide +kernel
theorem tabOf7 : tabOf 7 = mk 4 f7 := rfl
section
variable {P : Program} {w : World} {K : PySem.W.Frag} {mg : Str → Option Value} {base : Heap}
/-! ### _law_table -/
def spTab : Sp := fun vs H Q _ => ∃ z : Int, vs = [.int z] ∧ ∀ H' (l : Addr), Same H H' → TabAt H' l (tabOf (z % 8).toNat) → Q (.ref l) H'
abbrev nTab : List Str := ["_law_number", "_law_which", "_law_r", "_law_c", "_law_ring", "_law_pairs", "_law_one", "_law_other", "_law_x"]
theorem scTab : FnScope nTab ["_law_number"] (defScope (topS 37)) := ⟨rfl, rfl, rfl, by decide +kernel, rfl, by decide +kernel, by decide +kernel⟩
abbrev sR : Scope := { kind := .function, names := [(".0", .local), ("_law_r", .cell), ("range", .globalImplicit)], isGenerator := false, isCoroutine := false }
abbrev sRg : Scope := { kind := .function, names := [(".0", .local), ("_law_r", .cell), ("range", .globalImplicit), ("_law_ring", .cell)], isGenerator := false, isCoroutine := false }
abbrev sC : Scope := { kind := .function, names := [(".0", .local), ("_law_c", .local), ("int", .globalImplicit), ("_law_r", .free)], isGenerator := false, isCoroutine := false }
abbrev sCg : Scope := { kind := .function, names := [(".0", .local), ("_law_c", .local), ("int", .globalImplicit), ("_law_r", .free), ("_law_ring", .free)], isGenerator := false, isCoroutine := false }
abbrev sO : Scope := { kind := .function, names := [(".0", .local), ("_law_one", .cell), ("_law_pairs", .cell)], isGenerator := false, isCoroutine := false }
abbrev sT : Scope := { kind := .function, names := [(".0", .local), ("_law_other", .cell), ("len", .globalImplicit), ("_law_one", .cell)], isGenerator := false, isCoroutine := false }
theorem fl_pos {z : Int} {b : List Int} (e : z ∈ b) : [z].filter (fun x => decide (x ∈ b)) = [z] := by simp [e]
theorem fl_neg {z : Int} {b : List Int} (e : ¬ z ∈ b) : [z].filter (fun x => decide (x ∈ b)) = [] := by simp [e]
theorem el1 {r c : Nat} {H : Hp} {Q : VK} (q : Q (.int (f1 (r : Int) (c : Int))) H) : Q (.int (if (!decide (V.int (0 + (r : Int)) = V.int (0 + (c : Int)))) = true then 1 else 0)) H := by
  rw [Int.zero_add, Int.zero_add, dec_int]
  unfold f1 b2 at q
  by_cases e : (r : Int) = (c : Int)
  · rw [if_neg (by rw [e]; simp)]
    rw [if_neg (fun h => h e)] at q
    exact q
  · rw [if_pos (by simpa using e)]
    rw [if_pos e] at q
    exact q
theorem el2 {a b : Int} : (if decide (V.int a = V.int b) = true then (1 : Int) else 0) = b2 (a = b) := by
  unfold b2
  by_cases e : a = b
  · rw [if_pos e, if_pos (decide_eq_true (eI e))]
  · rw [if_neg e, if_neg (by rw [decide_eq_false (nI e)]; decide)]
theorem el3 {a b : Int} : (if (!decide (V.int a = V.int b)) = true then (1 : Int) else 0) = b2 (a ≠ b) := by
  unfold b2
  by_cases e : a = b
  · rw [decide_eq_true (eI e), if_neg (show ¬ (!true) = true by decide), if_neg (fun h => h e)]
  · rw [decide_eq_false (nI e), if_pos (show (!false) = true by decide), if_pos e]
theorem at_ring {l : List Int} {n : Nat} {z : Int} {y : Int} (hl : l.length = n) (hn : 0 < n) (h : l.getD (z % (n : Int)).toNat 0 = y) : atI (l.map V.int) (z % (n : Int)) = some (.int y) := by
  have h0 := Int.emod_nonneg z (show (n : Int) ≠ 0 by omega)
  have h1 := Int.emod_lt_of_pos z (show (0 : Int) < (n : Int) by omega)
  refine at_of (j := (z % (n : Int)).toNat) (by omega) ?_
  have h2 : (z % (n : Int)).toNat < l.length := by omega
  rw [List.getElem?_map, List.getElem?_eq_getElem h2]
  rw [List.getD_eq_getElem?_getD, List.getElem?_eq_getElem h2] at h
  exact congrArg (fun y => some (V.int y)) h
theorem pair_get {H : Hp} {rs : List Addr} {i : Nat} {x : V} (hp : PairsT K H rs pairs) (hi : (rs.map V.ref)[i]? = some x) : i < 10 ∧ ∃ a, pairs[i]? = some a ∧ ∃ r, V.ref r = x ∧ SqT K H r (a.map V.int) := by
  have hi1 : i < pairs.length := by
    have := (List.getElem?_eq_some_iff.mp hi).1
    rw [List.length_map, Paired.len hp] at this
    exact this
  obtain ⟨r, gr, g1⟩ := Paired.get2 hp (List.getElem?_eq_getElem hi1)
  rw [List.getElem?_map, gr] at hi
  exact ⟨hi1, _, List.getElem?_eq_getElem hi1, r, Option.some.inj hi, g1⟩
theorem has_table (F : Fn K mg "_law_table" 37) (T : Txt K mg) (CS : Has P w K mg base "_law_sets" ["_law_n", "_law_k"] 1 (spSet K)) : Has P w K mg base "_law_table" ["_law_number"] 2 spTab := by
  refine has_mk F scTab (fun _ _ _ _ _ _ us hl => match us, hl with | [_], _ => rfl) (fun vs H Q E h => ?_) (fun f cdv A outer s H vs Q E hr h => ?_)
  · obtain ⟨z, rfl, _⟩ := h
    rfl
  · obtain ⟨z, rfl, q⟩ := h
    refine ⟨_, (pss_cons (ps_set (i := 1) scTab.nd rfl (.inl rfl) (pe_op op_mod (pe_callTy call_int1 (by rfl) T.int (by decide +kernel) (pa_cons (pv 0) pa_nil)) pe_int))
      (pss_cons (ps_if (pt_cmpR op_eq (pv 1) pe_int (nomark _)) (pss_one (ps_ret (pe_lst (pa_cons (pe_lst (pa_cons pe_int pa_nil)) pa_nil)))) pss_nil)
      (pss_cons (ps_if (pt_cmpR op_eq (pv 1) pe_int (nomark _)) (pss_one (ps_ret (pe_lc (own := [("_law_r", 2)]) (g := gName 2) (by rfl) scTab.nd (pi_range1 rfl T.range (pa_cons pe_int pa_nil)) (blkOk_by (own := [("_law_r", 2)]) (N := nTab) (sc := defScope (topS 37)) (by decide +kernel)) (fun _ _ _ _ _ => pg_name (i := 2) scTab.nd rfl (Or.inr rfl)) (fun _ _ _ _ _ => pts_nil)
        (fun _ _ _ _ _ => pe_lc (own := [("_law_c", 3)]) (g := gName 3) (by rfl) scTab.nd (pi_range1 rfl T.range (pa_cons pe_int pa_nil)) (blkOk_by (own := [("_law_c", 3)]) (N := nTab) (sc := sR) (scope := sC) (by decide +kernel)) (fun _ _ _ _ _ => pg_name (i := 3) scTab.nd rfl (Or.inl rfl)) (fun _ _ _ _ _ => pts_nil)
          (fun _ _ _ _ _ => (pe_callTy call_int1 (by rfl) T.int (by decide +kernel) (pa_cons (pe_cmpR op_ne (pv 2) (pv 3) (nomark _)) pa_nil))))))) pss_nil)
      (pss_cons (ps_if (pt_cmpR op_eq (pv 1) pe_int (nomark _)) (pss_one (ps_ret (pe_lc (own := [("_law_r", 2)]) (g := gName 2) (by rfl) scTab.nd (pi_range1 rfl T.range (pa_cons pe_int pa_nil)) (blkOk_by (own := [("_law_r", 2)]) (N := nTab) (sc := defScope (topS 37)) (by decide +kernel)) (fun _ _ _ _ _ => pg_name (i := 2) scTab.nd rfl (Or.inr rfl)) (fun _ _ _ _ _ => pts_nil)
        (fun _ _ _ _ _ => pe_lc (own := [("_law_c", 3)]) (g := gName 3) (by rfl) scTab.nd (pi_range1 rfl T.range (pa_cons pe_int pa_nil)) (blkOk_by (own := [("_law_c", 3)]) (N := nTab) (sc := sR) (scope := sC) (by decide +kernel)) (fun _ _ _ _ _ => pg_name (i := 3) scTab.nd rfl (Or.inl rfl)) (fun _ _ _ _ _ => pts_nil)
          (fun _ _ _ _ _ => (pe_ifExp (pt_cmpR op_eq (pv 2) (pv 3) (nomark _)) pe_int (pe_op op_add pe_int (pe_callTy call_int1 (by rfl) T.int (by decide +kernel) (pa_cons (pe_cmpR op_eq (pe_op op_fdiv (pv 2) pe_int) (pe_op op_fdiv (pv 3) pe_int) (nomark _)) pa_nil))))))))) pss_nil)
      (pss_cons (ps_if (pt_cmpR op_eq (pv 1) pe_int (nomark _)) (pss_cons (ps_set (i := 4) scTab.nd rfl (.inr rfl) (pe_tup (pa_cons pe_int (pa_cons pe_int (pa_cons pe_int (pa_cons pe_int (pa_cons pe_int (pa_cons pe_int pa_nil)))))))) (pss_one (ps_ret (pe_lc (own := [("_law_r", 2)]) (g := gName 2) (by rfl) scTab.nd (pi_range1 rfl T.range (pa_cons pe_int pa_nil)) (blkOk_by (own := [("_law_r", 2)]) (N := nTab) (sc := defScope (topS 37)) (by decide +kernel)) (fun _ _ _ _ _ => pg_name (i := 2) scTab.nd rfl (Or.inr rfl)) (fun _ _ _ _ _ => pts_nil)
        (fun _ _ _ _ _ => pe_lc (own := [("_law_c", 3)]) (g := gName 3) (by rfl) scTab.nd (pi_range1 rfl T.range (pa_cons pe_int pa_nil)) (blkOk_by (own := [("_law_c", 3)]) (N := nTab) (sc := sRg) (scope := sCg) (by decide +kernel)) (fun _ _ _ _ _ => pg_name (i := 3) scTab.nd rfl (Or.inl rfl)) (fun _ _ _ _ _ => pts_nil)
          (fun _ _ _ _ _ => (pxT (K := K) (pv 4) (pe_op op_mod (pe_callTy call_int1 (by rfl) T.int (by decide +kernel) (pa_cons (pe_op op_sub (pv 2) (pv 3)) pa_nil)) pe_int)))))))) pss_nil)
      (pss_cons (ps_if (pt_cmpR op_eq (pv 1) pe_int (nomark _)) (pss_cons (ps_set (i := 4) scTab.nd rfl (.inr rfl) (pe_tup (pa_cons pe_int (pa_cons pe_int (pa_cons pe_int (pa_cons pe_int (pa_cons pe_int pa_nil))))))) (pss_one (ps_ret (pe_lc (own := [("_law_r", 2)]) (g := gName 2) (by rfl) scTab.nd (pi_range1 rfl T.range (pa_cons pe_int pa_nil)) (blkOk_by (own := [("_law_r", 2)]) (N := nTab) (sc := defScope (topS 37)) (by decide +kernel)) (fun _ _ _ _ _ => pg_name (i := 2) scTab.nd rfl (Or.inr rfl)) (fun _ _ _ _ _ => pts_nil)
        (fun _ _ _ _ _ => pe_lc (own := [("_law_c", 3)]) (g := gName 3) (by rfl) scTab.nd (pi_range1 rfl T.range (pa_cons pe_int pa_nil)) (blkOk_by (own := [("_law_c", 3)]) (N := nTab) (sc := sRg) (scope := sCg) (by decide +kernel)) (fun _ _ _ _ _ => pg_name (i := 3) scTab.nd rfl (Or.inl rfl)) (fun _ _ _ _ _ => pts_nil)
          (fun _ _ _ _ _ => (pxT (K := K) (pv 4) (pe_op op_mod (pe_callTy call_int1 (by rfl) T.int (by decide +kernel) (pa_cons (pe_op op_sub (pv 2) (pv 3)) pa_nil)) pe_int)))))))) pss_nil)
      (pss_cons (ps_if (pt_cmpR op_eq (pv 1) pe_int (nomark _)) (pss_one (ps_ret (pe_lc (own := [("_law_r", 2)]) (g := gName 2) (by rfl) scTab.nd (pi_range1 rfl T.range (pa_cons pe_int pa_nil)) (blkOk_by (own := [("_law_r", 2)]) (N := nTab) (sc := defScope (topS 37)) (by decide +kernel)) (fun _ _ _ _ _ => pg_name (i := 2) scTab.nd rfl (Or.inr rfl)) (fun _ _ _ _ _ => pts_nil)
        (fun _ _ _ _ _ => pe_lc (own := [("_law_c", 3)]) (g := gName 3) (by rfl) scTab.nd (pi_range1 rfl T.range (pa_cons pe_int pa_nil)) (blkOk_by (own := [("_law_c", 3)]) (N := nTab) (sc := sR) (scope := sC) (by decide +kernel)) (fun _ _ _ _ _ => pg_name (i := 3) scTab.nd rfl (Or.inl rfl)) (fun _ _ _ _ _ => pts_nil)
          (fun _ _ _ _ _ => (pe_op op_add (pe_callTy call_int1 (by rfl) T.int (by decide +kernel) (pa_cons (pe_cmpR op_ne (pe_op op_fdiv (pv 2) pe_int) (pe_op op_fdiv (pv 3) pe_int) (nomark _)) pa_nil)) (pe_callTy call_int1 (by rfl) T.int (by decide +kernel) (pa_cons (pe_cmpR op_ne (pe_op op_mod (pe_callTy call_int1 (by rfl) T.int (by decide +kernel) (pa_cons (pv 2) pa_nil)) pe_int) (pe_op op_mod (pe_callTy call_int1 (by rfl) T.int (by decide +kernel) (pa_cons (pv 3) pa_nil)) pe_int) (nomark _)) pa_nil)))))))) pss_nil)
      (pss_cons (ps_if (pt_cmpR op_eq (pv 1) pe_int (nomark _)) (pss_cons (ps_set (i := 5) scTab.nd rfl (.inr rfl) (pe_h CS hr (by rfl) (pa_cons pe_int (pa_cons pe_int pa_nil)))) (pss_one (ps_ret (pe_lc (own := [("_law_one", 6)]) (g := gName 6) (wi := iList K (tVar 5)) (by rfl) scTab.nd (pi_list (pv 5)) (blkOk_by (own := [("_law_one", 6)]) (N := nTab) (sc := defScope (topS 37)) (by decide +kernel)) (fun _ _ _ _ _ => pg_name (i := 6) scTab.nd rfl (Or.inr rfl)) (fun _ _ _ _ _ => pts_nil)
        (fun _ _ _ _ _ => pe_lc (own := [("_law_other", 7)]) (g := gName 7) (wi := iList K (tVar 5)) (by rfl) scTab.nd (pi_list (pv 5)) (blkOk_by (own := [("_law_other", 7)]) (N := nTab) (sc := sO) (by decide +kernel)) (fun _ _ _ _ _ => pg_name (i := 7) scTab.nd rfl (Or.inr rfl)) (fun _ _ _ _ _ => pts_nil)
          (fun _ _ _ _ _ => pe_op op_sub pe_int (pe_callB (call_lenK (K := K)) (by rfl) T.len PySem.boot_len (pa_cons (pe_lc (own := [("_law_x", 8)]) (g := gName 8) (wi := iTup K (tVar 6)) (by rfl) scTab.nd (pi_tup (pv 6)) (blkOk_by (own := [("_law_x", 8)]) (N := nTab) (sc := sT) (by decide +kernel)) (fun _ _ _ _ _ => pg_name (i := 8) scTab.nd rfl (Or.inl rfl))
              (fun _ _ _ _ _ => pts_one (pt_cmpR (op_inK (K := K)) (pv 8) (pv 7) (by rfl))) (fun _ _ _ _ _ => pv 8)) pa_nil)))))))) pss_nil)
      (pss_one (ps_ret (pe_lc (own := [("_law_r", 2)]) (g := gName 2) (by rfl) scTab.nd (pi_range1 rfl T.range (pa_cons pe_int pa_nil)) (blkOk_by (own := [("_law_r", 2)]) (N := nTab) (sc := defScope (topS 37)) (by decide +kernel)) (fun _ _ _ _ _ => pg_name (i := 2) scTab.nd rfl (Or.inr rfl)) (fun _ _ _ _ _ => pts_nil)
        (fun _ _ _ _ _ => pe_lc (own := [("_law_c", 3)]) (g := gName 3) (by rfl) scTab.nd (pi_range1 rfl T.range (pa_cons pe_int pa_nil)) (blkOk_by (own := [("_law_c", 3)]) (N := nTab) (sc := sR) (scope := sC) (by decide +kernel)) (fun _ _ _ _ _ => pg_name (i := 3) scTab.nd rfl (Or.inl rfl)) (fun _ _ _ _ _ => pts_nil)
          (fun _ _ _ _ _ => (pe_ifExp (pt_cmpR op_eq (pv 2) (pv 3) (nomark _)) pe_int (pe_op op_add pe_int (pe_callTy call_int1 (by rfl) T.int (by decide +kernel) (pa_cons (pe_cmpR op_eq (pe_op op_mod (pe_callTy call_int1 (by rfl) T.int (by decide +kernel) (pa_cons (pe_op op_add (pv 2) (pv 3)) pa_nil)) pe_int) pe_int (nomark _)) pa_nil))))))))))))))))), ?_⟩
    refine ⟨.int z, rfl, .inl ⟨_, rfl, _, _, rfl, rfl, posZ (by decide), ?_⟩⟩
    obtain ⟨m, hm, em⟩ : ∃ m : Nat, m < 8 ∧ z % 8 = (m : Int) := ⟨(z % 8).toNat, by omega, by omega⟩
    rw [em] at q
    rw [Int.toNat_natCast] at q
    show gName 1 (V.int (z % 8)) _ _ _
    rw [em]
    clear em
    match m, hm with
    | 0, _ =>
      refine ⟨.int 0, rfl, rfl, _, rfl, iteE rfl ?_⟩
      refine ⟨by show 1 ≤ sizeLine; decide +kernel, fun r nr => ⟨by show 1 ≤ sizeLine; decide +kernel, fun l nl => ?_⟩⟩
      exact q _ l ((Same.fresh nr).trans (Same.fresh nl)) ⟨[r], upd_same, .cons (by rw [upd_ne (ne_of_none upd_same nl)]; exact upd_same) .nil⟩
    | 1, _ =>
      refine ⟨.int 1, rfl, rfl, _, rfl, iteD (nI (by decide)) ?_⟩
      refine ⟨.int 1, rfl, rfl, _, rfl, iteE rfl ?_⟩
      refine tab_run (n := 4) (f := f1) (by decide) (fun r c H' Q s hr hc q => ?_) q
      refine ⟨.int (0 + (r : Int)), rfl, .int (0 + (c : Int)), rfl, rfl, .inr ⟨_, rfl, ?_⟩⟩
      refine el1 ?_
      exact q
    | 2, _ =>
      refine ⟨.int 2, rfl, rfl, _, rfl, iteD (nI (by decide)) ?_⟩
      refine ⟨.int 2, rfl, rfl, _, rfl, iteD (nI (by decide)) ?_⟩
      refine ⟨.int 2, rfl, rfl, _, rfl, iteE rfl ?_⟩
      refine tab_run (n := 6) (f := f2) (by decide) (fun r c H' Q s hr hc q => ?_) q
      refine ⟨.int (0 + (r : Int)), rfl, .int (0 + (c : Int)), rfl, rfl, _, rfl, ?_⟩
      by_cases e : (r : Int) = (c : Int)
      · refine iteE (eI (by omega)) ?_
        rw [show f2 (r : Int) (c : Int) = 0 from if_pos e] at q
        exact q
      · refine iteD (nI (by omega)) ?_
        refine ⟨_, rfl, _, _, rfl, rfl, ⟨by decide, by decide⟩, _, rfl, _, _, rfl, rfl, ⟨by decide, by decide⟩, rfl, .inr ⟨_, rfl, _, _, rfl, rfl, ?_⟩⟩
        have ef : f2 (r : Int) (c : Int) = 1 + b2 ((r : Int) / 2 = (c : Int) / 2) := if_neg e
        rw [ef] at q
        rw [el2, Int.zero_add, Int.zero_add]
        exact q
    | 3, _ =>
      refine ⟨.int 3, rfl, rfl, _, rfl, iteD (nI (by decide)) ?_⟩
      refine ⟨.int 3, rfl, rfl, _, rfl, iteD (nI (by decide)) ?_⟩
      refine ⟨.int 3, rfl, rfl, _, rfl, iteD (nI (by decide)) ?_⟩
      refine ⟨.int 3, rfl, rfl, _, rfl, iteE rfl ?_⟩
      refine ⟨by show 6 ≤ sizeLine; decide +kernel, fun p np => ?_⟩
      have hp : SqT K (upd H p (.tup (ring6.map V.int))) p (ring6.map V.int) := tpU
      have s1 : Same H (upd H p (.tup (ring6.map V.int))) := Same.fresh np
      refine tab_run (n := 6) (f := f3) (by decide) (fun r c H' Q s hr hc q => ?_) (fun H' l s => q H' l (s1.trans s))
      refine ⟨.ref p, rfl, .int (0 + (r : Int)), rfl, .int (0 + (c : Int)), rfl, _, _, rfl, rfl, .inl ⟨_, rfl, _, _, rfl, rfl, posZ (by decide), p, _, _, .int (f3 (r : Int) (c : Int)), rfl, rfl, Same.tp s hp, ?_, q⟩⟩
      exact at_ring (l := ring6) rfl (by decide) (by rw [Int.zero_add, Int.zero_add]; rfl)
    | 4, _ =>
      refine ⟨.int 4, rfl, rfl, _, rfl, iteD (nI (by decide)) ?_⟩
      refine ⟨.int 4, rfl, rfl, _, rfl, iteD (nI (by decide)) ?_⟩
      refine ⟨.int 4, rfl, rfl, _, rfl, iteD (nI (by decide)) ?_⟩
      refine ⟨.int 4, rfl, rfl, _, rfl, iteD (nI (by decide)) ?_⟩
      refine ⟨.int 4, rfl, rfl, _, rfl, iteE rfl ?_⟩
      refine ⟨by show 5 ≤ sizeLine; decide +kernel, fun p np => ?_⟩
      have hp : SqT K (upd H p (.tup (ring5.map V.int))) p (ring5.map V.int) := tpU
      have s1 : Same H (upd H p (.tup (ring5.map V.int))) := Same.fresh np
      refine tab_run (n := 5) (f := f4) (by decide) (fun r c H' Q s hr hc q => ?_) (fun H' l s => q H' l (s1.trans s))
      refine ⟨.ref p, rfl, .int (0 + (r : Int)), rfl, .int (0 + (c : Int)), rfl, _, _, rfl, rfl, .inl ⟨_, rfl, _, _, rfl, rfl, posZ (by decide), p, _, _, .int (f4 (r : Int) (c : Int)), rfl, rfl, Same.tp s hp, ?_, q⟩⟩
      exact at_ring (l := ring5) rfl (by decide) (by rw [Int.zero_add, Int.zero_add]; rfl)
    | 5, _ =>
      refine ⟨.int 5, rfl, rfl, _, rfl, iteD (nI (by decide)) ?_⟩
      refine ⟨.int 5, rfl, rfl, _, rfl, iteD (nI (by decide)) ?_⟩
      refine ⟨.int 5, rfl, rfl, _, rfl, iteD (nI (by decide)) ?_⟩
      refine ⟨.int 5, rfl, rfl, _, rfl, iteD (nI (by decide)) ?_⟩
      refine ⟨.int 5, rfl, rfl, _, rfl, iteD (nI (by decide)) ?_⟩
      refine ⟨.int 5, rfl, rfl, _, rfl, iteE rfl ?_⟩
      refine tab_run (n := 9) (f := f5) (by decide) (fun r c H' Q s hr hc q => ?_) q
      refine ⟨_, rfl, _, _, rfl, rfl, ⟨by decide, by decide⟩, _, rfl, _, _, rfl, rfl, ⟨by decide, by decide⟩, rfl, .inr ⟨_, rfl, ?_⟩⟩
      refine ⟨_, rfl, .inl ⟨_, rfl, _, _, rfl, rfl, posZ (by decide), ?_⟩⟩
      refine ⟨_, rfl, .inl ⟨_, rfl, _, _, rfl, rfl, posZ (by decide), rfl, .inr ⟨_, rfl, _, _, rfl, rfl, ?_⟩⟩⟩
      rw [el3, el3, Int.zero_add, Int.zero_add]
      exact q
    | 6, _ =>
      refine ⟨.int 6, rfl, rfl, _, rfl, iteD (nI (by decide)) ?_⟩
      refine ⟨.int 6, rfl, rfl, _, rfl, iteD (nI (by decide)) ?_⟩
      refine ⟨.int 6, rfl, rfl, _, rfl, iteD (nI (by decide)) ?_⟩
      refine ⟨.int 6, rfl, rfl, _, rfl, iteD (nI (by decide)) ?_⟩
      refine ⟨.int 6, rfl, rfl, _, rfl, iteD (nI (by decide)) ?_⟩
      refine ⟨.int 6, rfl, rfl, _, rfl, iteD (nI (by decide)) ?_⟩
      refine ⟨.int 6, rfl, rfl, _, rfl, iteE rfl ?_⟩
      refine ⟨rfl, fun H1 l s1 h1 => ?_⟩
      obtain ⟨rs, hl, hp⟩ := h1
      have rl : rs.length = 10 := Paired.len hp
      refine ⟨.ref l, rfl, l, rfl, ⟨_, .inl (.inl hl)⟩, fun D nD => ?_⟩
      refine lc_list (K := K) (a := l) (xs := rs.map V.ref) (fun i H' => Same H1 H' ∧ ∃ ss : List Addr, H' D = some (.lst (ss.map V.ref)) ∧ ss.length = i ∧ RowsD D H' ss (t6.take i))
        ⟨Same.fresh nD, [], upd_same, rfl, .nil⟩ (fun i H' _ ⟨h, _⟩ => .inl (.inl (h _ _ hl))) (fun i x H' hi ⟨sH, ss, eD, el, hd⟩ => ?_) (fun H' ⟨sH, ss, eD, el, hd⟩ => ?_)
      · obtain ⟨hi1, a, ga, r, ex, ha⟩ := pair_get hp hi
        subst ex
        have ha := Same.tp sH ha
        refine ⟨rfl, tYesI ?_⟩
        refine iteT ?_
        refine ⟨.ref l, rfl, l, rfl, ⟨_, .inl (.inl (sH _ _ hl))⟩, fun D2 nD2 => ?_⟩
        have nDD : D2 ≠ D := (ne_of_none eD nD2).symm
        refine lc_list (K := K) (a := l) (xs := rs.map V.ref) (Upto H' D2 fun j => .int (com a (pairs.getD j []))) (Upto.zero nD2) (fun i H' _ h => .inl (.inl (h.1 _ _ (sH _ _ hl)))) (fun j y H3 hj u => ?_) (fun H3 u => ?_)
        · obtain ⟨hj1, b, gb, r2, ey, hb⟩ := pair_get hp hj
          subst ey
          have hb := Same.tp (sH.trans u.1) hb
          have ha := Same.tp u.1 ha
          refine ⟨rfl, tYesI ?_⟩
          refine iteT ?_
          refine ⟨.ref r, rfl, r, rfl, ⟨_, ha⟩, fun D3 nD3 => ?_⟩
          refine lc_tup (K := K) (a := r) (xs := a.map V.int) (fun k H' => Same H3 H' ∧ ∃ acc : List V, H' D3 = some (.lst acc) ∧ acc.length = ((a.take k).filter fun x => decide (x ∈ b)).length) ⟨Same.fresh nD3, [], upd_same, rfl⟩ (fun k H' _ ⟨h, _⟩ => Same.tp h ha) (fun k y H4 hk ⟨s4, acc, e3, ea⟩ => ?_) (fun H4 ⟨s4, acc, e3, ea⟩ => ?_)
          · obtain ⟨z, gz, rfl⟩ := int_at hk
            have al : acc.length ≤ 10 := by
              rw [ea]
              refine Nat.le_trans (List.length_filter_le _ _) (Nat.le_trans (List.length_take_le' _ _) ?_)
              have := pair_len i hi1
              rw [List.getD_eq_getElem?_getD, ga] at this
              have : a.length = 2 := this
              omega
            have tk : (a.take (k + 1)).filter (fun x => decide (x ∈ b)) = (a.take k).filter (fun x => decide (x ∈ b)) ++ [z].filter fun x => decide (x ∈ b) := by
              rw [List.take_add_one, gz, List.filter_append]
              rfl
            refine ⟨rfl, .int z, rfl, .ref r2, rfl, r2, _, rfl, .inr (Same.tp s4 hb), rfl, flat_ints b, _, rfl, ?_⟩
            rw [if_neg (by decide), inV_int]
            by_cases e : z ∈ b
            · refine iteE e ?_
              refine ⟨_, rfl, acc, e3, small1000 (by omega), Same.put s4 nD3, acc ++ [.int z], upd_same, ?_⟩
              rw [tk, fl_pos e, List.length_append, List.length_append, ea]
              rfl
            · refine iteD e ?_
              refine ⟨s4, acc, e3, ?_⟩
              rw [tk, fl_neg e, ea, List.append_nil]
          · rw [List.length_map, List.take_length] at ea
            refine ⟨D3, acc, rfl, .inl (.inl (.inl e3)), _, _, rfl, rfl, ?_⟩
            refine ⟨_, s4 _ _ u.2, by rw [vl_len]; exact small1000 (by omega), u.put nD2 s4 ?_⟩
            rw [ea, List.getD_eq_getElem?_getD, gb]
            rfl
        · have e2 := u.2
          rw [List.length_map, rl, show (10 : Nat) = pairs.length from rfl, vl_map] at e2
          refine ⟨_, u.1 _ _ eD, by rw [List.length_map, el]; exact small1000 (by omega), ?_⟩
          refine ⟨Same.put (sH.trans u.1) nD, ss ++ [D2], by rw [upd_same, List.map_append]; rfl, by rw [List.length_append, el]; rfl, ?_⟩
          rw [t6_take ga]
          exact hd.more u.1 nDD e2
      · rw [List.length_map, rl, show (10 : Nat) = t6.length from rfl, List.take_length] at hd
        exact q H' D (s1.trans sH) (hd.tab eD)
    | 7, _ =>
      refine ⟨.int 7, rfl, rfl, _, rfl, iteD (nI (by decide)) ?_⟩
      refine ⟨.int 7, rfl, rfl, _, rfl, iteD (nI (by decide)) ?_⟩
      refine ⟨.int 7, rfl, rfl, _, rfl, iteD (nI (by decide)) ?_⟩
      refine ⟨.int 7, rfl, rfl, _, rfl, iteD (nI (by decide)) ?_⟩
      refine ⟨.int 7, rfl, rfl, _, rfl, iteD (nI (by decide)) ?_⟩
      refine ⟨.int 7, rfl, rfl, _, rfl, iteD (nI (by decide)) ?_⟩
      refine ⟨.int 7, rfl, rfl, _, rfl, iteD (nI (by decide)) ?_⟩
      refine tab_run (n := 4) (f := f7) (by decide) (fun r c H' Q s hr hc q => ?_) q
      refine ⟨.int (0 + (r : Int)), rfl, .int (0 + (c : Int)), rfl, rfl, _, rfl, ?_⟩
      by_cases e : (r : Int) = (c : Int)
      · refine iteE (eI (by omega)) ?_
        rw [show f7 (r : Int) (c : Int) = 0 from if_pos e] at q
        exact q
      · refine iteD (nI (by omega)) ?_
        refine ⟨_, rfl, _, rfl, _, _, rfl, rfl, .inl ⟨_, rfl, _, _, rfl, rfl, posZ (by decide), ?_⟩⟩
        refine ⟨rfl, .inr ⟨_, rfl, _, _, rfl, rfl, ?_⟩⟩
        have ef : f7 (r : Int) (c : Int) = 1 + b2 (((r : Int) + (c : Int)) % 2 = 0) := if_neg e
        rw [ef] at q
        rw [el2, Int.zero_add, Int.zero_add]
        exact q
end
end K17

set_option Elab.async false
set_option linter.all false
set_option maxRecDepth 100000
set_option maxHeartbeats 4000000
namespace K17
open PySem PySem.Spec PyProof.Rows L2 Mth RZ
theorem ixN_of {n j : Nat} {z : Int} (e : z = (j : Int)) (h : j < n) : ixN n z = some j := by
  subst e
  unfold ixN
  rw [if_pos (by omega), if_pos (by omega), Int.toNat_natCast]
theorem Same.ls {K : PySem.W.Frag} {H H' : Hp} {a : Addr} {xs : List V} (e : Same H H') (h : SqL K H a xs) : SqL K H' a xs := by
  rcases h with (h | ⟨o, h⟩) | h
  · exact .inl (.inl (e _ _ h))
  · exact .inl (.inr ⟨o, e _ _ h⟩)
  · exact .inr h
/-- the numbers at a place -/
theorem num_at {zs : List Int} {i : Nat} (h : i < zs.length) : (zs.map V.int)[i]? = some (.int (zs.getD i 0)) := by
  rw [List.getElem?_map, List.getElem?_eq_getElem h, List.getD_eq_getElem?_getD, List.getElem?_eq_getElem h]
  rfl
abbrev nV (n : Nat) : V := .int (n : Int)
theorem rgV_names (n : Nat) : rgV 0 (n : Int) = (List.range n).map nV := by
  unfold rgV
  rw [show ((n : Int) - 0).toNat = n by omega]
  refine List.map_congr_left fun i _ => ?_
  show V.int (0 + (i : Int)) = V.int (i : Int)
  rw [Int.zero_add]
section
variable {P : Program} {w : World} {K : PySem.W.Frag} {mg : Str → Option Value} {base : Heap}
/-! ### _law_shuffled -/
def spShuf (K : PySem.W.Frag) : Sp := fun vs H Q _ => ∃ (a : Addr) (zs : List Int) (t n : Nat), vs = [.ref a, .int t, .int n] ∧ SqL K H a (zs.map V.int) ∧ t + n ≤ zs.length ∧ 1 ≤ n ∧ n ≤ 10 ∧ ∀ H' (l : Addr) (ns : List Nat), Same H H' → ns.Perm (List.range n) → H' l = some (.lst (ns.map nV)) → Q (.ref l) H'
abbrev nShuf : List Str := ["_law_numbers_here", "_law_at", "_law_count", "_law_names", "_law_k", "_law_j"]
theorem scShuf : FnScope nShuf ["_law_numbers_here", "_law_at", "_law_count"] (defScope (topS 38)) := ⟨rfl, rfl, rfl, by decide +kernel, rfl, by decide +kernel, by decide +kernel⟩
theorem has_shuf (F : Fn K mg "_law_shuffled" 38) (T : Txt K mg) : Has P w K mg base "_law_shuffled" ["_law_numbers_here", "_law_at", "_law_count"] 1 (spShuf K) := by
  refine has_mk F scShuf (fun _ _ _ _ _ _ us hl => match us, hl with | [_, _, _], _ => rfl) (fun vs H Q E h => ?_) (fun f cdv A outer s H vs Q E hr h => ?_)
  · obtain ⟨a, zs, t, n, rfl, _⟩ := h
    rfl
  · obtain ⟨a, zs, t, n, rfl, hS, htn, h1, h10, q⟩ := h
    refine ⟨_, pss_cons (ps_set (i := 3) scShuf.nd rfl (.inl rfl) (pe_listRg rfl (by rfl) T.list (prg_1 (by rfl) T.range (pv 2))))
      (pss_cons (ps_for PassesOwn.never rfl (pi_range3 rfl T.range (pa_cons (pe_op op_sub (pv 2) pe_int) (pa_cons pe_int (pa_cons (pe_un un_neg pe_int) pa_nil)))) (pg_name (i := 4) scShuf.nd rfl (.inl rfl))
        (pss_cons (ps_set (i := 5) scShuf.nd rfl (.inl rfl) (pe_op op_mod (pe_callTy call_int1 (by rfl) T.int (by decide +kernel) (pa_cons (pxL (K := K) (pv 0) (pe_op op_add (pv 1) (pv 4))) pa_nil)) (pe_op op_add (pv 4) pe_int)))
        (pss_one (ps_asg (pe_tup (pa_cons (pxL (K := K) (pv 3) (pv 5)) (pa_cons (pxL (K := K) (pv 3) (pv 4)) pa_nil))) (pg_tup (by rfl) (pgs_cons (pg_sub (pv 3) (pv 4) set_list) (pgs_cons (pg_sub (pv 3) (pv 5) set_list) pgs_nil)))))))
      (pss_one (ps_ret (pv 3)))), ?_⟩
    refine ⟨.int n, rfl, (n : Int), rfl, RgOk.of_le (by omega) (by omega) (by omega) (by omega), fun l nl => ?_⟩
    rw [rgV_names]
    have s1 : Same H (upd H l (.lst ((List.range n).map nV))) := Same.fresh nl
    have hl : (upd H l (.lst ((List.range n).map nV))) l = some (.lst ((List.range n).map nV)) := upd_same
    refine ⟨.int n, rfl, _, _, rfl, rfl, _, rfl, (n : Int) - 1, 0, -1, ((n : Int) - 1 - 0).toNat, rfl, RgC.neg (by omega) (by omega) (by omega) (by omega), ?_⟩
    refine for_rangeC (lo := (n : Int) - 1) (c := -1) (n := ((n : Int) - 1 - 0).toNat) (fun i σ H' => ∃ (v4 v5 : Option V) (ns : List Nat), σ = [some (.ref a), some (.int t), some (.int n), some (.ref l), v4, v5] ∧ Same H H' ∧ H' l = some (.lst (ns.map nV)) ∧ ns.Perm (List.range n))
      ⟨none, none, _, rfl, s1, hl, List.Perm.refl _⟩ ?_ ?_
    · rintro i σ H1 hi ⟨v4, v5, ns, rfl, sH, hl, hp⟩
      have nlen : ns.length = n := by rw [hp.length_eq, List.length_range]
      obtain ⟨k, hk1, hkn, ek⟩ : ∃ k : Nat, 1 ≤ k ∧ k < n ∧ (n : Int) - 1 + (i : Int) * -1 = (k : Int) := ⟨n - 1 - i, by omega, by omega, by omega⟩
      rw [ek]
      refine ⟨.ref a, rfl, .int t, rfl, .int k, rfl, _, _, rfl, rfl, a, _, _, .int (zs.getD (t + k) 0), rfl, rfl, Same.ls sH hS, at_of (Int.natCast_add t k).symm (num_at (by omega)), .inl ⟨_, rfl, ?_⟩⟩
      refine ⟨.int k, rfl, _, _, rfl, rfl, _, _, rfl, rfl, posZ (by omega), ?_⟩
      obtain ⟨j, hj, ej⟩ : ∃ j : Nat, j < n ∧ (zs.getD (t + k) 0) % ((k : Int) + 1) = (j : Int) := by
        have g0 := Int.emod_nonneg (zs.getD (t + k) 0) (show (k : Int) + 1 ≠ 0 by omega)
        have g1 := Int.emod_lt_of_pos (zs.getD (t + k) 0) (show (0 : Int) < (k : Int) + 1 by omega)
        exact ⟨((zs.getD (t + k) 0) % ((k : Int) + 1)).toNat, by omega, by omega⟩
      show gName 5 (V.int ((zs.getD (t + k) 0) % ((k : Int) + 1))) _ _ _
      rw [ej]
      have gk : ns[k]? = some (ns[k]'(by omega)) := List.getElem?_eq_getElem (by omega)
      have gj : ns[j]? = some (ns[j]'(by omega)) := List.getElem?_eq_getElem (by omega)
      generalize ns[k]'(by omega) = A at gk
      generalize ns[j]'(by omega) = B at gj
      have hk2 : (ns.map nV)[k]? = some (nV A) := by rw [List.getElem?_map, gk]; rfl
      have hj2 : (ns.map nV)[j]? = some (nV B) := by rw [List.getElem?_map, gj]; rfl
      refine ⟨.ref l, rfl, .int j, rfl, l, _, _, nV B, rfl, rfl, .inl (.inl hl), atI_nat hj2, .ref l, rfl, .int k, rfl, l, _, _, nV A, rfl, rfl, .inl (.inl hl), atI_nat hk2, by show 2 ≤ sizeLine; decide +kernel, fun Z nZ => ?_⟩
      have hl2 : (upd H1 Z (.tup [nV B, nV A])) l = some (.lst (ns.map nV)) := Same.fresh nZ _ _ hl
      refine ⟨Z, _, rfl, tpU, rfl, nV B, _, rfl, .ref l, rfl, .int k, rfl, l, _, _, k, rfl, rfl, hl2, ixN_of rfl (by rw [List.length_map]; omega), ?_⟩
      refine ⟨nV A, _, rfl, .ref l, rfl, .int j, rfl, l, _, _, j, rfl, rfl, upd_same, ixN_of rfl (by rw [List.length_set, List.length_map]; omega), rfl, ?_⟩
      refine ⟨_, _, (ns.set k B).set j A, rfl, Same.put (Same.put (sH.trans (Same.fresh nZ)) nl) nl, ?_, (swap_perm gk gj).trans hp⟩
      rw [upd_same, List.map_set, List.map_set]
    · rintro σ H1 ⟨v4, v5, ns, rfl, sH, hl, hp⟩
      exact ⟨.ref l, rfl, q H1 l ns sH hp hl⟩
end
end K17

set_option Elab.async false
set_option linter.all false
set_option maxRecDepth 100000
set_option maxHeartbeats 4000000
namespace K17
open PySem PySem.Spec PyProof.Rows L2 Mth RZ
def rrow (T : List (List Int)) (ns : List Nat) (r : Nat) : List Int := ns.map fun c => at2 T r c
theorem ren_take {T : List (List Int)} {ns : List Nat} {i r : Nat} (h : ns[i]? = some r) : (ren T ns).take (i + 1) = (ren T ns).take i ++ [rrow T ns r] := by
  rw [List.take_add_one]
  congr 1
  unfold ren
  rw [List.getElem?_map, h]
  rfl
theorem rrow_take {T : List (List Int)} {ns : List Nat} {r i c : Nat} (h : ns[i]? = some c) : (rrow T ns r).take (i + 1) = (rrow T ns r).take i ++ [at2 T r c] := by
  rw [List.take_add_one]
  congr 1
  unfold rrow
  rw [List.getElem?_map, h]
  rfl
theorem nm_at {ns : List Nat} {i : Nat} {x : V} (h : (ns.map nV)[i]? = some x) : ∃ c, ns[i]? = some c ∧ x = nV c := by
  rw [List.getElem?_map] at h
  cases e : ns[i]? with
  | none => rw [e] at h; cases h
  | some c =>
    rw [e] at h
    exact ⟨c, rfl, (Option.some.inj h).symm⟩
theorem tab_at {H : Hp} {rs : List Addr} {T : List (List Int)} {r c : Nat} {n : Nat} (h : Paired (fun (r : Addr) (row : List Int) => H r = some (.lst (row.map V.int))) rs T) (hn : T.length = n) (rect : ∀ row ∈ T, row.length = n) (hr : r < n) (hc : c < n) :
    ∃ (q : Addr) (row : List Int), (rs.map V.ref)[r]? = some (.ref q) ∧ H q = some (.lst (row.map V.int)) ∧ (row.map V.int)[c]? = some (.int (at2 T r c)) := by
  have hr2 : r < T.length := by omega
  obtain ⟨q, e, g⟩ := Paired.get2 h (List.getElem?_eq_getElem hr2)
  have hl : T[r].length = n := rect _ (List.getElem_mem hr2)
  refine ⟨q, T[r], by rw [List.getElem?_map, e]; rfl, g, ?_⟩
  unfold at2
  rw [List.getD_eq_getElem?_getD (l := T), List.getElem?_eq_getElem hr2]
  show _ = some (V.int (T[r].getD c 0))
  rw [List.getElem?_map, List.getElem?_eq_getElem (by omega), List.getD_eq_getElem?_getD, List.getElem?_eq_getElem (by omega)]
  rfl
section
variable {P : Program} {w : World} {K : PySem.W.Frag} {mg : Str → Option Value} {base : Heap}
/-! ### _law_renamed -/
def spRen (K : PySem.W.Frag) : Sp := fun vs H Q _ => ∃ (b a : Addr) (zs : List Int) (t n : Nat) (T : List (List Int)), vs = [.ref b, .ref a, .int t] ∧ TabAt H b T ∧ T.length = n ∧ (∀ row ∈ T, row.length = n) ∧ SqL K H a (zs.map V.int) ∧ t + n ≤ zs.length ∧ 1 ≤ n ∧ n ≤ 10 ∧ ∀ H' (p : Addr) (ns : List Nat), Same H H' → ns.Perm (List.range n) → RowsAt K H' p (ren T ns) → Q (.ref p) H'
abbrev nRen : List Str := ["_law_table_here", "_law_numbers_here", "_law_at", "_law_names", "_law_r", "_law_c"]
theorem scRen : FnScope nRen ["_law_table_here", "_law_numbers_here", "_law_at"] (defScope (topS 39)) := ⟨rfl, rfl, rfl, by decide +kernel, rfl, by decide +kernel, by decide +kernel⟩
abbrev scRenO : Scope := { kind := .function, names := [(".0", .local), ("_law_r", .cell), ("tuple", .globalImplicit), ("_law_names", .cell), ("_law_table_here", .cell)], isGenerator := false, isCoroutine := false }
theorem has_ren (F : Fn K mg "_law_renamed" 39) (T : Txt K mg) (C : Has P w K mg base "_law_shuffled" ["_law_numbers_here", "_law_at", "_law_count"] 1 (spShuf K)) : Has P w K mg base "_law_renamed" ["_law_table_here", "_law_numbers_here", "_law_at"] 2 (spRen K) := by
  refine has_mk F scRen (fun _ _ _ _ _ _ us hl => match us, hl with | [_, _, _], _ => rfl) (fun vs H Q E h => ?_) (fun f cdv A outer s H vs Q E hr h => ?_)
  · obtain ⟨b, a, zs, t, n, T, rfl, _⟩ := h
    rfl
  · obtain ⟨b, a, zs, t, n, tb, rfl, ⟨rs, hb, hp⟩, hn, rect, hS, htn, h1, h10, q⟩ := h
    have rl : rs.length = n := by rw [Paired.len hp, hn]
    refine ⟨_, pss_cons (ps_set (i := 3) scRen.nd rfl (.inr rfl) (pe_h C hr (by rfl) (pa_cons (pv 1) (pa_cons (pv 2) (pa_cons (pe_callB call_len_seq (by rfl) T.len PySem.boot_len (pa_cons (pv 0) pa_nil)) pa_nil)))))
      (pss_one (ps_ret (pe_callTy call_tupleP (by rfl) T.tuple (by decide +kernel) (pa_cons (pe_lc (own := [("_law_r", 4)]) (g := gName 4) (wi := iList K (tVar 3)) (by rfl) scRen.nd (pi_list (pv 3))
          (blkOk_by (own := [("_law_r", 4)]) (N := nRen) (sc := defScope (topS 39)) (by decide +kernel)) (fun _ _ _ _ _ => pg_name (i := 4) scRen.nd rfl (Or.inr rfl)) (fun _ _ _ _ _ => pts_nil)
          (te := tCB (rTupP K) (tCons (tLc (iList K (tVar 3)) (gName 5) tYes (tOp (rIxL K) (tOp (rIxL K) (tVar 0) (tVar 4)) (tVar 5)) [5]) tNil))
          (fun _ _ _ _ _ => pe_callTy call_tupleP (by rfl) T.tuple (by decide +kernel) (pa_cons (pe_lc (own := [("_law_c", 5)]) (g := gName 5) (wi := iList K (tVar 3)) (by rfl) scRen.nd (pi_list (pv 3))
            (blkOk_by (own := [("_law_c", 5)]) (N := nRen) (sc := scRenO) (by decide +kernel)) (fun _ _ _ _ _ => pg_name (i := 5) scRen.nd rfl (Or.inl rfl)) (fun _ _ _ _ _ => pts_nil)
            (fun _ _ _ _ _ => pxL (K := K) (pxL (K := K) (pv 0) (pv 4)) (pv 5))) pa_nil))) pa_nil)))), ?_⟩
    refine ⟨.ref a, rfl, .int t, rfl, .ref b, rfl, b, _, rfl, .inl (.inl (.inl hb)), ?_⟩
    rw [List.length_map, rl]
    refine ⟨a, zs, t, n, rfl, hS, htn, h1, h10, fun H1 l ns s1 perm hl => ?_⟩
    have hb1 := s1 _ _ hb
    have hp1 : Paired (fun (r : Addr) (row : List Int) => H1 r = some (.lst (row.map V.int))) rs tb := Paired.imp (fun _ _ z => s1 _ _ z) hp
    have nlen : ns.length = n := by rw [perm.length_eq, List.length_range]
    have nlt : ∀ {i c : Nat}, ns[i]? = some c → i < n ∧ c < n := by
      intro i c h
      have hi := (List.getElem?_eq_some_iff.mp h).1
      have hm : c ∈ ns := by
        obtain ⟨_, e⟩ := List.getElem?_eq_some_iff.mp h
        rw [← e]
        exact List.getElem_mem _
      exact ⟨by omega, List.mem_range.mp (perm.mem_iff.mp hm)⟩
    refine ⟨.ref l, rfl, l, rfl, ⟨_, .inl (.inl hl)⟩, fun D nD => ?_⟩
    refine lc_list (K := K) (a := l) (xs := ns.map nV) (fun i H' => Same H1 H' ∧ ∃ ss : List Addr, H' D = some (.lst (ss.map V.ref)) ∧ ss.length = i ∧ Paired (fun (r : Addr) (row : List Int) => PlainT H' r (row.map V.int)) ss ((ren tb ns).take i))
      ⟨Same.fresh nD, [], upd_same, rfl, .nil⟩ (fun i H' _ ⟨h, _⟩ => .inl (.inl (h _ _ hl))) (fun i x H' hi ⟨sH, ss, eD, el, hd⟩ => ?_) (fun H' ⟨sH, ss, eD, el, hd⟩ => ?_)
    · obtain ⟨r, gr, rfl⟩ := nm_at hi
      obtain ⟨hin, hrn⟩ := nlt gr
      refine ⟨rfl, tYesI ?_⟩
      refine iteT ?_
      refine ⟨.ref l, rfl, l, rfl, ⟨_, .inl (.inl (sH _ _ hl))⟩, fun D2 nD2 => ?_⟩
      refine lc_list (K := K) (a := l) (xs := ns.map nV) (fun j H2 => Same H' H2 ∧ H2 D2 = some (.lst (((rrow tb ns r).take j).map V.int)) ∧ j ≤ n) ⟨Same.fresh nD2, upd_same, Nat.zero_le _⟩ (fun j H2 _ ⟨h, _⟩ => .inl (.inl (h _ _ (sH _ _ hl)))) (fun j y H3 hj ⟨s3, e3, _⟩ => ?_) (fun H3 ⟨s3, e3, _⟩ => ?_)
      · obtain ⟨c, gc, rfl⟩ := nm_at hj
        obtain ⟨hjn, hcn⟩ := nlt gc
        obtain ⟨qa, row, g1, g2, g3⟩ := tab_at hp1 hn rect hrn hcn
        refine ⟨rfl, tYesI ?_⟩
        refine iteT ?_
        refine ⟨.ref b, rfl, .int r, rfl, b, _, _, .ref qa, rfl, rfl, .inl (.inl (s3 _ _ (sH _ _ hb1))), atI_nat g1, .int c, rfl, qa, _, _, .int (at2 tb r c), rfl, rfl, .inl (.inl (s3 _ _ (sH _ _ g2))), atI_nat g3, ?_⟩
        refine ⟨_, e3, by rw [List.length_map, List.length_take]; exact small1000 (by omega), Same.put s3 nD2, ?_, hjn⟩
        rw [upd_same, app_ints, rrow_take gc]
      · have rlen : (rrow tb ns r).length = n := by unfold rrow; rw [List.length_map, nlen]
        rw [List.length_map, nlen, List.take_of_length_le (by omega)] at e3
        refine ⟨D2, _, rfl, .inl (.inl e3), fun l2 o nl2 pl2 => ?_⟩
        have s4 : Same H' (upd H3 l2 o) := s3.trans (Same.fresh nl2)
        have keep : ∀ (r : Addr) (xs : List V), PlainT (upd H3 l2 o) r xs → PlainT (upd (upd H3 l2 o) D (.lst (ss.map V.ref ++ [.ref l2]))) r xs := fun r xs ⟨ob, hb, z⟩ => ⟨ob, by rw [upd_ne (ne_of hb (s4 _ _ eD) (fun z => nomatch z))]; exact hb, z⟩
        refine ⟨_, s4 _ _ eD, by rw [List.length_map, el]; exact small1000 (by omega), ?_⟩
        refine ⟨Same.put (sH.trans s4) nD, ss ++ [l2], by rw [upd_same, List.map_append]; rfl, by rw [List.length_append, el]; rfl, ?_⟩
        rw [ren_take gr]
        exact Paired.snoc (F := fun (r : Addr) (row : List Int) => PlainT _ r (row.map V.int)) (keep l2 ((rrow tb ns r).map V.int) pl2) (Paired.imp (fun r (row : List Int) (z : PlainT H' r (row.map V.int)) => keep r _ (PlainT.same s4 z)) hd)
    · have rlen : (ren tb ns).length = n := by unfold ren; rw [List.length_map, nlen]
      rw [List.length_map, nlen, List.take_of_length_le (by omega)] at hd
      refine ⟨D, _, rfl, .inl (.inl eD), fun l2 o nl2 pl2 => ?_⟩
      exact q _ l2 ns (s1.trans (sH.trans (Same.fresh nl2))) perm ⟨ss, pl2.sq, Paired.imp (fun r (row : List Int) (z : PlainT H' r (row.map V.int)) => PlainT.same (Same.fresh nl2) z) hd⟩
/-! ### _law_some -/
def spSome (K : PySem.W.Frag) : Sp := fun vs H Q _ => ∃ (a : Addr) (zs : List Int) (t : Nat), vs = [.ref a, .int t] ∧ SqL K H a (zs.map V.int) ∧ t + 20 ≤ zs.length ∧ ∀ H' (s : Tr) (v : V), Same H H' → s.Leaf → TreeAt K H' s v → Q v H'
abbrev nSome : List Str := ["_law_numbers_here", "_law_at", "_law_kind", "_law_m", "_law_which"]
theorem scSome : FnScope nSome ["_law_numbers_here", "_law_at"] (defScope (topS 40)) := ⟨rfl, rfl, rfl, by decide +kernel, rfl, by decide +kernel, by decide +kernel⟩
theorem md (z : Int) (k : Nat) (h : 0 < k) : ∃ m : Nat, m < k ∧ z % (k : Int) = (m : Int) := by
  have g0 := Int.emod_nonneg z (show (k : Int) ≠ 0 by omega)
  have g1 := Int.emod_lt_of_pos z (show (0 : Int) < (k : Int) by omega)
  exact ⟨(z % (k : Int)).toNat, by omega, by omega⟩
theorem has_some (F : Fn K mg "_law_some" 40) (T : Txt K mg) (CR : Has P w K mg base "_law_renamed" ["_law_table_here", "_law_numbers_here", "_law_at"] 2 (spRen K)) (CT : Has P w K mg base "_law_table" ["_law_number"] 2 spTab) : Has P w K mg base "_law_some" ["_law_numbers_here", "_law_at"] 3 (spSome K) := by
  refine has_mk F scSome (fun _ _ _ _ _ _ us hl => match us, hl with | [_, _], _ => rfl) (fun vs H Q E h => ?_) (fun f cdv A outer s H vs Q E hr h => ?_)
  · obtain ⟨a, zs, t, rfl, _⟩ := h
    rfl
  · obtain ⟨a, zs, t, rfl, hS, htn, q⟩ := h
    refine ⟨_, pss_cons (ps_set (i := 2) scSome.nd rfl (.inl rfl) (pe_op op_mod (pe_callTy call_int1 (by rfl) T.int (by decide +kernel) (pa_cons (pxL (K := K) (pv 0) (pv 1)) pa_nil)) pe_int))
      (pss_cons (ps_if (pt_cmpR op_eq (pv 2) pe_int (nomark _))
        (pss_one (ps_ret (pe_tup (pa_cons pe_str (pa_cons (pe_op op_add pe_int (pe_op op_mod (pe_callTy call_int1 (by rfl) T.int (by decide +kernel) (pa_cons (pxL (K := K) (pv 0) (pe_op op_add (pv 1) pe_int)) pa_nil)) pe_int))
          (pa_cons (pe_op op_add pe_int (pe_op op_mod (pe_callTy call_int1 (by rfl) T.int (by decide +kernel) (pa_cons (pxL (K := K) (pv 0) (pe_op op_add (pv 1) pe_int)) pa_nil)) pe_int)) pa_nil)))))) pss_nil)
      (pss_cons (ps_if (pt_cmpR op_eq (pv 2) pe_int (nomark _))
        (pss_cons (ps_set (i := 3) scSome.nd rfl (.inl rfl) (pe_op op_add pe_int (pe_op op_mod (pe_callTy call_int1 (by rfl) T.int (by decide +kernel) (pa_cons (pxL (K := K) (pv 0) (pe_op op_add (pv 1) pe_int)) pa_nil)) pe_int)))
        (pss_one (ps_ret (pe_tup (pa_cons pe_str (pa_cons (pe_op op_add (pe_op op_mul pe_int (pv 3)) (pe_op op_mod (pe_callTy call_int1 (by rfl) T.int (by decide +kernel) (pa_cons (pxL (K := K) (pv 0) (pe_op op_add (pv 1) pe_int)) pa_nil)) pe_int))
          (pa_cons (pv 3) pa_nil))))))) pss_nil)
      (pss_cons (ps_set (i := 4) scSome.nd rfl (.inl rfl) (pe_op op_mod (pe_callTy call_int1 (by rfl) T.int (by decide +kernel) (pa_cons (pxL (K := K) (pv 0) (pe_op op_add (pv 1) pe_int)) pa_nil)) pe_int))
      (pss_one (ps_ret (pe_tup (pa_cons pe_str (pa_cons (pe_h CR hr (by rfl) (pa_cons (pe_h CT hr (by rfl) (pa_cons (pv 4) pa_nil)) (pa_cons (pv 0) (pa_cons (pe_op op_add (pv 1) pe_int) pa_nil)))) pa_nil)))))))), ?_⟩
    refine ⟨.ref a, rfl, .int t, rfl, a, _, _, .int (zs.getD t 0), rfl, rfl, hS, atI_nat (num_at (by omega)), .inl ⟨_, rfl, _, _, rfl, rfl, posZ (by decide), ?_⟩⟩
    obtain ⟨m, hm, em⟩ := md (zs.getD t 0) 3 (by decide)
    show gName 2 (V.int ((zs.getD t 0) % ((3 : Nat) : Int))) _ _ _
    rw [em]
    clear em
    have n1 := num_at (zs := zs) (i := t + 1) (by omega)
    have n2 := num_at (zs := zs) (i := t + 2) (by omega)
    have i1 : (t : Int) + 1 = ((t + 1 : Nat) : Int) := by omega
    have i2 : (t : Int) + 2 = ((t + 2 : Nat) : Int) := by omega
    generalize zs.getD (t + 1) 0 = z1 at n1
    generalize zs.getD (t + 2) 0 = z2 at n2
    match m, hm with
    | 0, _ =>
      refine ⟨.int 0, rfl, rfl, _, rfl, iteE rfl ?_⟩
      refine ⟨.ref a, rfl, .int t, rfl, _, _, rfl, rfl, a, _, _, .int z1, rfl, rfl, hS, at_of i1 n1, .inl ⟨_, rfl, _, _, rfl, rfl, posZ (by decide), _, _, rfl, rfl, ?_⟩⟩
      refine ⟨.ref a, rfl, .int t, rfl, _, _, rfl, rfl, a, _, _, .int z2, rfl, rfl, hS, at_of i2 n2, .inl ⟨_, rfl, _, _, rfl, rfl, posZ (by decide), _, _, rfl, rfl, by show 3 ≤ sizeLine; decide +kernel, fun p np => ?_⟩⟩
      obtain ⟨m1, h1, e1⟩ := md z1 12 (by decide)
      obtain ⟨m2, h2, e2⟩ := md z2 19 (by decide)
      have e : ([vW, .int (1 + z1 % ((12 : Nat) : Int)), .int (2 + z2 % ((19 : Nat) : Int))] : List V) = [vW, .int ((1 + m1 : Nat) : Int), .int ((m2 + 2 : Nat) : Int)] := by
        rw [e1, e2, show (1 : Int) + (m1 : Int) = ((1 + m1 : Nat) : Int) by omega, show (2 : Int) + (m2 : Int) = ((m2 + 2 : Nat) : Int) by omega]
      refine q _ (.words (1 + m1) m2) _ (Same.fresh np) ⟨by omega, by omega, by omega⟩ ⟨p, rfl, ?_⟩
      rw [← e]
      exact tpU
    | 1, _ =>
      refine ⟨.int 1, rfl, rfl, _, rfl, iteD (nI (by decide)) ?_⟩
      refine ⟨.int 1, rfl, rfl, _, rfl, iteE rfl ?_⟩
      refine ⟨.ref a, rfl, .int t, rfl, _, _, rfl, rfl, a, _, _, .int z1, rfl, rfl, hS, at_of i1 n1, .inl ⟨_, rfl, _, _, rfl, rfl, posZ (by decide), _, _, rfl, rfl, ?_⟩⟩
      obtain ⟨m1, h1, e1⟩ := md z1 8 (by decide)
      obtain ⟨m2, h2, e2⟩ := md z2 9 (by decide)
      show gName 3 (V.int (1 + z1 % ((8 : Nat) : Int))) _ _ _
      rw [e1, show (1 : Int) + (m1 : Int) = ((1 + m1 : Nat) : Int) by omega]
      refine ⟨.int (1 + m1 : Nat), rfl, _, _, rfl, rfl, .inl ⟨by decide, by decide⟩, .ref a, rfl, .int t, rfl, _, _, rfl, rfl, a, _, _, .int z2, rfl, rfl, hS, at_of i2 n2, .inl ⟨_, rfl, _, _, rfl, rfl, posZ (by decide), _, _, rfl, rfl, .int (1 + m1 : Nat), rfl, by show 3 ≤ sizeLine; decide +kernel, fun p np => ?_⟩⟩
      have e : ([vS, .int (2 * ((1 + m1 : Nat) : Int) + z2 % ((9 : Nat) : Int)), .int (1 + m1 : Nat)] : List V) = [vS, .int ((2 * (1 + m1) + m2 : Nat) : Int), .int ((1 + m1 : Nat) : Int)] := by
        rw [e2, show (2 : Int) * ((1 + m1 : Nat) : Int) + (m2 : Int) = ((2 * (1 + m1) + m2 : Nat) : Int) by omega]
      refine q _ (.sets (2 * (1 + m1) + m2) (1 + m1)) _ (Same.fresh np) ⟨by omega, by omega, by omega, by omega⟩ ⟨p, rfl, ?_⟩
      rw [← e]
      exact tpU
    | 2, _ =>
      refine ⟨.int 2, rfl, rfl, _, rfl, iteD (nI (by decide)) ?_⟩
      refine ⟨.int 2, rfl, rfl, _, rfl, iteD (nI (by decide)) ?_⟩
      refine ⟨.ref a, rfl, .int t, rfl, _, _, rfl, rfl, a, _, _, .int z1, rfl, rfl, hS, at_of i1 n1, .inl ⟨_, rfl, _, _, rfl, rfl, posZ (by decide), ?_⟩⟩
      refine ⟨_, rfl, _, rfl, fun H1 l s1 h1 => ?_⟩
      generalize ((z1 % 8) % 8).toNat = k at h1
      obtain ⟨d, n, B⟩ := base_tab k
      obtain ⟨l1, l2⟩ := tab_len k
      refine ⟨.ref a, rfl, .int t, rfl, _, _, rfl, rfl, l, a, zs, t + 5, (tabOf k).length, tabOf k, congrArg (fun z => [V.ref l, .ref a, .int z]) (show (t : Int) + 5 = ((t + 5 : Nat) : Int) by omega), h1, rfl, tab_rect k, Same.ls s1 hS, by omega, l1, l2, fun H2 p ns s2 perm h2 => ?_⟩
      refine ⟨by show 2 ≤ sizeLine; decide +kernel, fun p2 np2 => ?_⟩
      rw [B.len] at perm
      exact q _ (.listed d (ren (tabOf k) ns)) _ (s1.trans (s2.trans (Same.fresh np2))) (tab_ren B perm) (TreeAt.same (t := .listed d (ren (tabOf k) ns)) (Same.refl _) ⟨p2, p, rfl, tpU, RowsAt.same (Same.fresh np2) h2⟩)
end
end K17

set_option Elab.async false
set_option linter.all false
set_option maxRecDepth 100000
set_option maxHeartbeats 4000000
namespace K17
open PySem PySem.Spec PyProof.Rows L2 Mth RZ
def iv (n : Nat) (g : Nat → Nat) : List Int := (List.range n).map fun (i : Nat) => ((g i : Nat) : Int)
theorem vl_iv (n : Nat) (g : Nat → Nat) : (vl n fun i => .int (g i : Nat)) = (iv n g).map V.int := by
  unfold vl iv
  rw [List.map_map]
  rfl
theorem iv_sum : ∀ (n : Nat) (g : Nat → Nat), (iv n g).sum = ((Sm n g : Nat) : Int)
  | 0, _ => rfl
  | n + 1, g => by
    have ih := iv_sum n g
    unfold iv at ih ⊢
    rw [List.range_succ, List.map_append, List.sum_append, ih, Sm_s, Int.natCast_add]
    show _ + (((g n : Nat) : Int) + 0) = _
    rw [Int.add_zero]
theorem iv_congr {n : Nat} {g h : Nat → Nat} (e : ∀ i, i < n → g i = h i) : iv n g = iv n h := by
  unfold iv
  exact List.map_congr_left fun i hi => by rw [e i (List.mem_range.mp hi)]
theorem iv_at {n : Nat} {g : Nat → Nat} {i : Nat} (h : i < n) : ((iv n g).map V.int)[i]? = some (.int (g i : Nat)) := by
  rw [← vl_iv]
  exact vl_get h
theorem ntab_len (t : Tr) (k : Nat) : (ntab t k).length = t.kn := by
  unfold ntab
  rw [List.length_map, List.length_range]
theorem ntab_row {t : Tr} {k i : Nat} (h : i < t.kn) : (ntab t k).getD i [] = iv t.kn fun j => t.p i j k := by
  unfold ntab
  rw [List.getD_eq_getElem?_getD, List.getElem?_map, List.getElem?_range h]
  rfl
theorem iteNe {x y : V} {A B : Prop} (h : x = y) (b : B) : if (!decide (x = y)) = true then A else B := by
  rw [decide_eq_true h]
  exact b
section
variable {X : Cx}
theorem cr_sumTK {K : PySem.W.Frag} (hc : X.calm = true) (hK : X.K = K := by rfl) : CallR X (.builtin "sum") (rSumT K) := by
  subst hK
  exact cr_sumT hc
end
section
variable {P : Program} {w : World} {K : PySem.W.Frag} {mg : Str → Option Value} {base : Heap}
/-! ### law -/
def spLaw (K : PySem.W.Frag) : Sp := fun vs H Q _ => ∃ (c : Addr) (cs : List Int), vs = [.ref c] ∧ SqL K H c (cs.map V.int) ∧ ∀ H', Q (.bl true) H'
abbrev nLaw : List Str := ["_law_script", "_law_numbers_here", "_law_tree", "_law_sizes", "_law_many", "_law_k", "_law_i", "_law_rows", "_law_row_here", "_law_a"]
theorem scLaw : FnScope nLaw ["_law_script"] (defScope (topS 41)) := ⟨rfl, rfl, rfl, by decide +kernel, rfl, by decide +kernel, by decide +kernel⟩
/-- the law, once the tree is there -/
theorem law_tail {f : Addr} {cdv : Value} {A : Around} {outer : List Env} {s : Shared} {H : Hp} {E : XK} (T : Txt K mg)
    (CV : Has P w K mg base "valencies" ["tree"] 6 (spVals K)) (CP : Has P w K mg base "point_count" ["tree"] 5 (spPoints K)) (CN : Has P w K mg base "numbers_of" ["tree", "k"] 7 (spNof K)) (CW : Has P w K mg base "ways_for" ["tree", "i", "j", "k"] 7 (spWf K))
    (hr : Room 7 (A.deeper (envOfC "law" (defScope (topS 41)) s.heap.objs.size f cdv))) :
    ∃ t2, PSs (bodyX P w K mg base "law" nLaw 41 f cdv A outer s H E) ((defBody (topS 41)).drop 3) t2 ∧ ∀ (Q : VK) (H0 : Hp) (t : Tr) (v : V) (c a : Addr) (zs : List Int), t.Good → TreeAt K H0 t v → SqL K H0 a (zs.map V.int) → zs.length = 60 → (∀ H'', Q (.bl true) H'') →
      t2 { nx := fun _ H' => Q .non H', rt := Q } [some (.ref c), some (.ref a), some v, none, none, none, none, none, none, none] H0 := by
  have hr6 := hr.mono (show 6 ≤ 7 by decide)
  have hr5 := hr.mono (show 5 ≤ 7 by decide)
  refine ⟨_, pss_cons (ps_set (i := 3) scLaw.nd rfl (.inl rfl) (pe_h CV hr6 (by rfl) (pa_cons (pv 2) pa_nil)))
    (pss_cons (ps_set (i := 4) scLaw.nd rfl (.inl rfl) (pe_callB call_len_seq (by rfl) T.len PySem.boot_len (pa_cons (pv 3) pa_nil)))
    (pss_cons (ps_if (PW.pt (pw_or (pt_cmpR op_ne (pe_callB (cr_sumTK (K := K) (by rfl)) (by rfl) T.sum (by decide +kernel) (pa_cons (pv 3) pa_nil)) (pe_h CP hr5 (by rfl) (pa_cons (pv 2) pa_nil)) (nomark _))
        (pw_or1 (pt_cmpR op_ne (pxT (K := K) (pv 3) pe_int) pe_int (nomark _))))) (pss_one (ps_ret pe_bl)) pss_nil)
    (pss_cons (ps_set (i := 5) scLaw.nd rfl (.inl rfl) (pe_op op_mod (pe_callTy call_int1 (by rfl) T.int (by decide +kernel) (pa_cons (pxL (K := K) (pv 1) pe_int) pa_nil)) (pv 4)))
    (pss_cons (ps_set (i := 6) scLaw.nd rfl (.inl rfl) (pe_op op_mod (pe_callTy call_int1 (by rfl) T.int (by decide +kernel) (pa_cons (pxL (K := K) (pv 1) pe_int) pa_nil)) (pv 4)))
    (pss_cons (ps_set (i := 7) scLaw.nd rfl (.inl rfl) (pe_h CN hr (by rfl) (pa_cons (pv 2) (pa_cons (pv 5) pa_nil))))
    (pss_cons (ps_if (pt_cmpR (op_neD hr.units) (pe_lc (own := [("_law_row_here", 8)]) (g := gName 8) (wi := iTup K (tVar 7)) (by rfl) scLaw.nd (pi_tup (pv 7)) (blkOk_by (own := [("_law_row_here", 8)]) (N := nLaw) (sc := defScope (topS 41)) (by decide +kernel)) (fun _ _ _ _ _ => pg_name (i := 8) scLaw.nd rfl (Or.inl rfl)) (fun _ _ _ _ _ => pts_nil)
          (fun _ _ _ _ _ => pe_callB (cr_sumTK (K := K) (by rfl)) (by rfl) T.sum (by decide +kernel) (pa_cons (pv 8) pa_nil)))
        (pe_callTy call_list_of (by rfl) T.list (by decide +kernel) (pa_cons (pv 3) pa_nil)) (nomark _)) (pss_one (ps_ret pe_bl)) pss_nil)
    (pss_cons (ps_for PassesOwn.never rfl (pi_range1 rfl T.range (pa_cons (pv 4) pa_nil)) (pg_name (i := 9) scLaw.nd rfl (.inr rfl))
      (pss_cons (ps_if (PW.pt (pw_or (pt_cmpR (op_neD hr.units) (pe_lc (own := [("_law_row_here", 8)]) (g := gName 8) (wi := iTup K (tVar 7)) (by rfl) scLaw.nd (pi_tup (pv 7)) (blkOk_by (own := [("_law_row_here", 8)]) (N := nLaw) (sc := defScope (topS 41)) (by decide +kernel)) (fun _ _ _ _ _ => pg_name (i := 8) scLaw.nd rfl (Or.inl rfl)) (fun _ _ _ _ _ => pts_nil)
            (fun _ _ _ _ _ => pxT (K := K) (pv 8) (pv 9)))
          (pe_callTy call_list_of (by rfl) T.list (by decide +kernel) (pa_cons (pxT (K := K) (pv 7) (pv 9)) pa_nil)) (nomark _))
          (pw_or1 (pt_cmpR op_ne (pxT (K := K) (pxT (K := K) (pv 7) pe_int) (pv 9)) (pe_callTy call_int1 (by rfl) T.int (by decide +kernel) (pa_cons (pe_cmpR op_eq (pv 9) (pv 5) (nomark _)) pa_nil)) (nomark _))))) (pss_one (ps_ret pe_bl)) pss_nil)
      (pss_one (ps_if (pt_cmpR op_ne (pe_op op_mul (pxT (K := K) (pv 3) (pv 5)) (pxT (K := K) (pxT (K := K) (pv 7) (pv 6)) (pv 9))) (pe_op op_mul (pxT (K := K) (pv 3) (pv 6)) (pe_h CW hr (by rfl) (pa_cons (pv 2) (pa_cons (pv 5) (pa_cons (pv 9) (pa_cons (pv 6) pa_nil)))))) (nomark _)) (pss_one (ps_ret pe_bl)) pss_nil))))
    (pss_one (ps_ret pe_bl))))))))), fun Q H0 t v c a zs hg ht hS hz60 q => ?_⟩
  have L := Tr.laws_good hg
  have hpts := Tr.good_pts hg
  have kn39 := Tr.good_kn hg
  have kn0 := L.pos
  -- sizes
  refine ⟨v, rfl, t, v, hg, rfl, ht, fun H1 z s1 hz => ?_⟩
  have hz : PlainT H1 z ((iv t.kn t.v).map V.int) := by
    rw [← vl_iv]
    exact hz
  have ivl : ((iv t.kn t.v).map V.int).length = t.kn := by
    rw [← vl_iv, vl_len]
  refine ⟨.ref z, rfl, z, _, rfl, .inr hz.sq, ?_⟩
  rw [ivl]
  -- the sum
  refine ⟨.ref z, rfl, z, _, rfl, hz.sq, v, rfl, t, v, hg, rfl, ht.same s1, fun H2 s2 => ?_⟩
  refine ⟨rfl, _, rfl, iteNe (eI (by rw [iv_sum, L.vsum])) ?_⟩
  refine ⟨.ref z, rfl, z, _, 0, .int (t.v 0 : Nat), rfl, rfl, (hz.same s2).sq, atI_nat (j := 0) (iv_at kn0), rfl, _, rfl, iteNe (eI (by rw [L.v0]; rfl)) ?_⟩
  have s12 := s1.trans s2
  have hz2 := hz.same s2
  have ht2 := ht.same s12
  have hS2 := Same.ls s12 hS
  clear s12 hz ht hS s1 s2
  -- k, i
  refine ⟨.ref a, rfl, a, _, 53, .int (zs.getD 53 0), rfl, rfl, hS2, atI_nat (j := 53) (num_at (by omega)), .inl ⟨_, rfl, .int t.kn, rfl, _, _, rfl, rfl, posZ (by omega), ?_⟩⟩
  obtain ⟨k, hk, ek⟩ := md (zs.getD 53 0) t.kn kn0
  show gName 5 (V.int ((zs.getD 53 0) % (t.kn : Int))) _ _ _
  rw [ek]
  refine ⟨.ref a, rfl, a, _, 54, .int (zs.getD 54 0), rfl, rfl, hS2, atI_nat (j := 54) (num_at (by omega)), .inl ⟨_, rfl, .int t.kn, rfl, _, _, rfl, rfl, posZ (by omega), ?_⟩⟩
  obtain ⟨i, hi, ei⟩ := md (zs.getD 54 0) t.kn kn0
  show gName 6 (V.int ((zs.getD 54 0) % (t.kn : Int))) _ _ _
  rw [ei]
  -- rows
  refine ⟨v, rfl, .int k, rfl, t, v, k, hg, rfl, ht2, hk, fun H3 p s3 hR => ?_⟩
  obtain ⟨rs, hB, hP⟩ := hR
  have hz3 := hz2.same s3
  have ht3 := ht2.same s3
  clear hz2 ht2 hS2 s3
  have rl : rs.length = t.kn := by rw [Paired.len hP, ntab_len]
  have row_at : ∀ {x : Nat}, x < t.kn → ∃ r, (rs.map V.ref)[x]? = some (.ref r) ∧ PlainT H3 r ((iv t.kn fun j => t.p x j k).map V.int) := by
    intro x hx
    obtain ⟨r, g1, g2⟩ := rows_get hP (x := x) (by rw [ntab_len]; exact hx)
    rw [ntab_row hx] at g2
    exact ⟨r, g1, g2⟩
  have row_of : ∀ {x : Nat} {y : V}, (rs.map V.ref)[x]? = some y → x < t.kn ∧ ∃ r, V.ref r = y ∧ PlainT H3 r ((iv t.kn fun j => t.p x j k).map V.int) := by
    intro x y h
    have hx : x < t.kn := by
      have := (List.getElem?_eq_some_iff.mp h).1
      rw [List.length_map, rl] at this
      exact this
    obtain ⟨r, g1, g2⟩ := row_at hx
    exact ⟨hx, r, Option.some.inj (g1.symm.trans h), g2⟩
  refine ⟨.ref p, rfl, p, rfl, ⟨_, hB⟩, fun D nD => ?_⟩
  refine lc_tup (K := K) (a := p) (xs := rs.map V.ref) (Upto H3 D fun x => .int (t.v x : Nat)) (Upto.zero nD) (fun x H' _ u => Same.tp u.1 hB) (fun x y H' hx u => ?_) (fun H4 u => ?_)
  · obtain ⟨hxk, r, rfl, g⟩ := row_of hx
    refine ⟨rfl, tYesI ?_⟩
    refine iteT ?_
    refine ⟨.ref r, rfl, r, _, rfl, (g.same u.1).sq, _, u.2, by rw [vl_len]; exact small1000 (by omega), u.put nD (Same.refl _) ?_⟩
    rw [iv_sum, L.row x hxk k hk]
  have s4 := u.1
  have e4 := u.2
  rw [List.length_map, rl, vl_iv] at e4
  clear u nD
  refine ⟨.ref z, rfl, z, _, rfl, .inr (hz3.same s4).sq, fun l nl => ?_⟩
  refine ⟨_, _, dpL (.inl (.inl (Same.fresh nl _ _ e4))), dpL lsU, shI _, shI _, false, congrArg V.bl (by rw [eqvI]; rfl), iteF ?_⟩
  have s5 := s4.trans (Same.fresh (o := .lst ((iv t.kn t.v).map V.int)) nl)
  generalize upd H4 l (.lst ((iv t.kn t.v).map V.int)) = H5 at s5
  clear e4 nl s4
  -- the loop
  refine ⟨.int t.kn, rfl, (t.kn : Int), rfl, by omega, by omega, ?_⟩
  refine for_range (lo := 0) (n := (t.kn : Int).toNat) (fun x σ H' => ∃ v9, σ = [some (.ref c), some (.ref a), some v, some (.ref z), some (.int t.kn), some (.int k), some (.int i), some (.ref p), none, v9] ∧ Same H3 H') ⟨none, rfl, s5⟩ ?_ ?_
  · rintro x σ H6 hx ⟨v9, rfl, s6⟩
    have hx : x < t.kn := by omega
    obtain ⟨rx, gx, px⟩ := row_at hx
    obtain ⟨r0, g0, p0⟩ := row_at kn0
    obtain ⟨ri, gi, pi⟩ := row_at hi
    refine ⟨.ref p, rfl, p, rfl, ⟨_, Same.tp s6 hB⟩, fun D nD => ?_⟩
    refine lc_tup (K := K) (a := p) (xs := rs.map V.ref) (Upto H6 D fun y => .int (t.p y x k : Nat)) (Upto.zero nD) (fun y H' _ u => Same.tp (s6.trans u.1) hB) (fun y w H' hy u => ?_) (fun H7 u => ?_)
    · obtain ⟨hyk, r, rfl, g⟩ := row_of hy
      refine ⟨rfl, tYesI ?_⟩
      refine iteT ?_
      refine ⟨.ref r, rfl, .int (0 + (x : Int)), rfl, r, _, _, .int (t.p y x k : Nat), rfl, rfl, (g.same (s6.trans u.1)).sq, at_of (Int.zero_add _) (iv_at hx), _, u.2, by rw [vl_len]; exact small1000 (by omega), u.put nD (Same.refl _) rfl⟩
    have s7 := s6.trans u.1
    have e7 := u.2
    rw [List.length_map, rl, vl_iv] at e7
    clear u nD
    refine ⟨.ref p, rfl, .int (0 + (x : Int)), rfl, p, _, _, .ref rx, rfl, rfl, Same.tp s7 hB, at_of (Int.zero_add _) gx, rx, _, rfl, .inr (px.same s7).sq, fun l nl => ?_⟩
    have sy : (iv t.kn fun y => t.p y x k) = iv t.kn fun j => t.p x j k := iv_congr fun y hy => L.sym y hy x hx k hk
    rw [sy] at e7
    refine ⟨_, _, dpL (.inl (.inl (Same.fresh nl _ _ e7))), dpL lsU, shI _, shI _, false, congrArg V.bl (by rw [eqvI]; rfl), iteF ?_⟩
    have s8 := s7.trans (Same.fresh (o := .lst ((iv t.kn fun j => t.p x j k).map V.int)) nl)
    generalize upd H7 l (.lst ((iv t.kn fun j => t.p x j k).map V.int)) = H8 at s8
    clear e7 nl s7
    refine ⟨.ref p, rfl, p, _, 0, .ref r0, rfl, rfl, Same.tp s8 hB, atI_nat (j := 0) g0, .int (0 + (x : Int)), rfl, r0, _, _, .int (t.p 0 x k : Nat), rfl, rfl, (p0.same s8).sq, at_of (Int.zero_add _) (iv_at hx), .int (0 + (x : Int)), rfl, .int k, rfl, rfl, .inr ⟨_, rfl, rfl, _, rfl, iteNe (eI ?_) ?_⟩⟩
    · rw [el2, L.one x hx k hk, Int.zero_add]
      unfold b2
      by_cases e : x = k
      · rw [if_pos e, if_pos (by rw [e])]
        rfl
      · rw [if_neg e, if_neg (by omega)]
        rfl
    refine ⟨.ref z, rfl, .int k, rfl, z, _, _, .int (t.v k : Nat), rfl, rfl, (hz3.same s8).sq, atI_nat (iv_at hk), .ref p, rfl, .int i, rfl, p, _, _, .ref ri, rfl, rfl, Same.tp s8 hB, atI_nat gi, .int (0 + (x : Int)), rfl, ri, _, _, .int (t.p i x k : Nat), rfl, rfl, (pi.same s8).sq, at_of (Int.zero_add _) (iv_at hx), _, _, rfl, rfl, cmulL ?_, ?_⟩
    · have := L.v_le hk
      omega
    refine ⟨.ref z, rfl, .int i, rfl, z, _, _, .int (t.v i : Nat), rfl, rfl, (hz3.same s8).sq, atI_nat (iv_at hi), v, rfl, .int k, rfl, .int (0 + (x : Int)), rfl, .int i, rfl, t, v, k, x, i, hg, congrArg (fun y => [v, V.int k, .int y, .int i]) (Int.zero_add _), ht3.same s8, hk, hx, hi, fun H9 s9 => ?_⟩
    refine ⟨_, _, rfl, rfl, cmulL ?_, rfl, _, rfl, iteNe (eI ?_) ?_⟩
    · have := L.v_le hi
      omega
    · rw [← Int.natCast_mul, ← Int.natCast_mul, L.rcp i hi x hx k hk]
    exact ⟨_, rfl, s8.trans s9⟩
  · rintro σ H6 ⟨v9, rfl, s6⟩
    exact q H6
/-- has_mk, for a def that is named -/
theorem ok_mk {x : Str} {N ps : List Str} {i k : Nat} {sp : Sp} {f : Addr} {fd : FuncData} (F : FunD K x x (defArgs (topS i)) (defBody (topS i)) (defScope (topS i)) [] [] f fd) (S : FnScope N ps (defScope (topS i)))
    (len : ∀ vs H Q E, sp vs H Q E → vs.length = ps.length)
    (body : ∀ (f : Addr) (cdv : Value) (A : Around) (outer : List Env) (s : Shared) (H : Hp) (vs : List V) (Q : VK) (E : XK), Room k (A.deeper (envOfC x (defScope (topS i)) s.heap.objs.size f cdv)) → sp vs H Q E →
      ∃ t, PSs (bodyX P w K mg base x N i f cdv A outer s H E) (defBody (topS i)) t ∧ t { nx := fun _ H' => Q .non H', rt := Q } (start N vs) H) : FnOk P w K mg base CX0 (k + 1) f fd ps sp := by
  refine F.ok S len fun cdv A outer s H vs Q E hr h => ?_
  obtain ⟨t, h1, h2⟩ := body f cdv A outer s H vs Q E hr h
  exact ⟨t, PSs.nox h1, h2⟩
theorem ok_law {f0 : Addr} {fd : FuncData} (F : FunD K "law" "law" (defArgs (topS 41)) (defBody (topS 41)) (defScope (topS 41)) [] [] f0 fd) (T : Txt K mg) (CB : Has P w K mg base "_law_numbers" ["_law_script", "_law_many"] 2 (spNumbers K)) (CS : Has P w K mg base "_law_some" ["_law_numbers_here", "_law_at"] 3 (spSome K))
    (CV : Has P w K mg base "valencies" ["tree"] 6 (spVals K)) (CP : Has P w K mg base "point_count" ["tree"] 5 (spPoints K)) (CN : Has P w K mg base "numbers_of" ["tree", "k"] 7 (spNof K)) (CW : Has P w K mg base "ways_for" ["tree", "i", "j", "k"] 7 (spWf K)) :
    FnOk P w K mg base CX0 8 f0 fd ["_law_script"] (spLaw K) := by
  refine ok_mk F scLaw (fun vs H Q E h => ?_) (fun f cdv A outer s H vs Q E hr h => ?_)
  · obtain ⟨c, cs, rfl, _⟩ := h
    rfl
  · obtain ⟨c, cs, rfl, hC, q⟩ := h
    obtain ⟨t2, w2, g2⟩ := law_tail (f := f) (cdv := cdv) (A := A) (outer := outer) (s := s) (H := H) (E := E) T CV CP CN CW hr
    have hr2 := hr.mono (show 2 ≤ 7 by decide)
    have hr3 := hr.mono (show 3 ≤ 7 by decide)
    refine ⟨_, pss_cons (ps_set (i := 1) scLaw.nd rfl (.inl rfl) (pe_h CB hr2 (by rfl) (pa_cons (pv 0) (pa_cons pe_int pa_nil))))
      (pss_cons (ps_set (i := 2) scLaw.nd rfl (.inl rfl) (pe_h CS hr3 (by rfl) (pa_cons (pv 1) (pa_cons pe_int pa_nil))))
      (pss_cons (ps_if (pt_cmpR op_eq (pe_op op_mod (pe_callTy call_int1 (by rfl) T.int (by decide +kernel) (pa_cons (pxL (K := K) (pv 1) pe_int) pa_nil)) pe_int) pe_int (nomark _))
        (pss_one (ps_set (i := 2) scLaw.nd rfl (.inl rfl) (pe_tup (pa_cons pe_str (pa_cons (pe_tup (pa_cons pe_str (pa_cons (pe_op op_add pe_int (pe_op op_mod (pe_callTy call_int1 (by rfl) T.int (by decide +kernel) (pa_cons (pxL (K := K) (pv 1) pe_int) pa_nil)) pe_int))
          (pa_cons (pe_op op_add pe_int (pe_op op_mod (pe_callTy call_int1 (by rfl) T.int (by decide +kernel) (pa_cons (pxL (K := K) (pv 1) pe_int) pa_nil)) pe_int)) pa_nil))))
          (pa_cons (pe_h CS hr3 (by rfl) (pa_cons (pv 1) (pa_cons pe_int pa_nil))) pa_nil)))))) pss_nil) w2)), ?_⟩
    refine ⟨.ref c, rfl, c, cs, rfl, hC, fun H1 a zs s1 ha hl => ?_⟩
    have hS : SqL K H1 a (zs.map V.int) := .inl (.inl ha)
    refine ⟨.ref a, rfl, a, zs, 0, rfl, hS, by omega, fun H2 t v s2 lf ht => ?_⟩
    have hS2 := Same.ls s2 hS
    refine ⟨.ref a, rfl, a, _, 50, .int (zs.getD 50 0), rfl, rfl, hS2, atI_nat (j := 50) (num_at (by omega)), .inl ⟨_, rfl, _, _, rfl, rfl, posZ (by decide), rfl, _, rfl, ?_⟩⟩
    by_cases e : (zs.getD 50 0) % 4 = 1
    · refine iteE (eI e) ?_
      have n1 := num_at (zs := zs) (i := 51) (by omega)
      have n2 := num_at (zs := zs) (i := 52) (by omega)
      generalize zs.getD 51 0 = z1 at n1
      generalize zs.getD 52 0 = z2 at n2
      refine ⟨.ref a, rfl, a, _, 51, .int z1, rfl, rfl, hS2, atI_nat (j := 51) n1, .inl ⟨_, rfl, _, _, rfl, rfl, posZ (by decide), _, _, rfl, rfl, ?_⟩⟩
      refine ⟨.ref a, rfl, a, _, 52, .int z2, rfl, rfl, hS2, atI_nat (j := 52) n2, .inl ⟨_, rfl, _, _, rfl, rfl, posZ (by decide), _, _, rfl, rfl, by show 3 ≤ sizeLine; decide +kernel, fun p1 np1 => ?_⟩⟩
      obtain ⟨m1, h1, e1⟩ := md z1 2 (by decide)
      obtain ⟨m2, h2, e2⟩ := md z2 3 (by decide)
      have et : ([vW, .int (1 + z1 % ((2 : Nat) : Int)), .int (2 + z2 % ((3 : Nat) : Int))] : List V) = [vW, .int ((1 + m1 : Nat) : Int), .int ((m2 + 2 : Nat) : Int)] := by
        rw [e1, e2, show (1 : Int) + (m1 : Int) = ((1 + m1 : Nat) : Int) by omega, show (2 : Int) + (m2 : Int) = ((m2 + 2 : Nat) : Int) by omega]
      have tw : TreeAt K (upd H2 p1 (.tup [vW, .int (1 + z1 % ((2 : Nat) : Int)), .int (2 + z2 % ((3 : Nat) : Int))])) (.words (1 + m1) m2) (.ref p1) := by
        refine ⟨p1, rfl, ?_⟩
        rw [← et]
        exact tpU
      refine ⟨.ref a, rfl, a, zs, 20, rfl, Same.ls (Same.fresh np1) hS2, by omega, fun H3 u w s3 lf2 hu => ?_⟩
      refine ⟨by show 3 ≤ sizeLine; decide +kernel, fun p2 np2 => ?_⟩
      refine g2 Q _ (.prod (.words (1 + m1) m2) u) (.ref p2) c a zs ⟨⟨1 + m1, m2, rfl, by omega, by omega, by omega⟩, lf2⟩ ⟨p2, .ref p1, w, rfl, tpU, (tw.same s3).same (Same.fresh np2), hu.same (Same.fresh np2)⟩ (Same.ls (Same.fresh np2) (Same.ls s3 (Same.ls (Same.fresh np1) hS2))) hl q
    · refine iteD (nI e) ?_
      exact g2 Q H2 t v c a zs (Tr.good_leaf lf) ht hS2 hl q
end
end K17

set_option Elab.async false
set_option linter.all false
set_option maxRecDepth 100000
set_option maxHeartbeats 0
namespace K17H
open PySem PySem.Spec PyProof.Rows L2
def topS (i : Nat) : Stmt := PySem.Challenge.pw_schemebound_k17_whole_numbers.main.body.getD i (.Pass ⟨0, 0, 0, 0⟩)
def dD (x : Str) (i : Nat) (dfl : List He.Dv := []) : He.DefD := ⟨(x, none), x, x, defArgs (topS i), defBody (topS i), defScope (topS i), dfl, []⟩
def fn : List He.DefD := [dD "require" 14, dD "choose" 15, dD "power_of" 16, dD "ways_of" 17, dD "checked_rows" 18, dD "checked_part" 19 [.int 1], dD "checked" 20, dD "point_count" 21, dD "kinds_of" 22,
  dD "valencies_of" 24, dD "number_of_words" 25, dD "number_of_sets" 26, dD "number_listed" 27, dD "number_in" 28, dD "checked_kinds" 29, dD "valencies" 30, dD "ways_for" 31, dD "numbers_of" 32,
  dD "_law_row" 34, dD "_law_numbers" 35, dD "_law_sets" 36, dD "_law_table" 37, dD "_law_shuffled" 38, dD "_law_renamed" 39, dD "_law_some" 40, dD "law" 41]
def names : List Str := ["require", "choose", "power_of", "ways_of", "checked_rows", "checked_part", "checked", "point_count", "kinds_of", "valencies_of", "number_of_words", "number_of_sets", "number_listed", "number_in", "checked_kinds", "valencies", "ways_for", "numbers_of",
  "_law_row", "_law_numbers", "_law_sets", "_law_table", "_law_shuffled", "_law_renamed", "_law_some"]
def consts : List Str := ["SchemeboundError", "InvalidScheme", "InvalidQuestion", "MOST_POINTS", "MOST_PARTS", "MOST_KINDS", "MOST_LISTED", "MOST_LISTED_KINDS", "MOST_LENGTH", "MOST_FIGURES", "MOST_MEMBERS", "MEMBERS"]
def frees : List Str := ["abs", "int", "range", "len", "max", "min", "sum", "all", "tuple", "list", "sorted", "zip"]
def fa : List He.Fa := (names ++ (["law", "MEMBERS"] : List Str)).map He.Fa.glo ++ frees.map He.Fa.free ++ [.int "MOST_POINTS" (10 ^ 60), .int "MOST_PARTS" 8, .int "MOST_KINDS" 60, .int "MOST_LISTED" 24, .int "MOST_LISTED_KINDS" 8, .int "MOST_LENGTH" 40, .int "MOST_FIGURES" 1000, .int "MOST_MEMBERS" 80]
def mKeys : List Str := ["words", "sets", "listed", "product"]
def mVals : List (Str × He.Dv) := [("words", .int 3), ("sets", .int 3), ("listed", .int 2), ("product", .int 3)]
def ts : List He.Tab := [(fun K => He.ga K "MEMBERS", mKeys)]
def ex (K : PySem.W.Frag) : Bool := He.valsB K (He.ga K "MEMBERS") mVals
abbrev R : PySem.W.OpenRow := PySem.W.OpenLaw.row PySem.Challenge.rw_schemebound_k17_whole_numbers
abbrev hk : PySem.W.Hook := He.hookX 4 fa fn ts [] ex
def ob (s : PySem.W.SharedT) : He.AlX := He.obsX 4 fa fn ts [] ex (HandSHeadRun.getT s)
theorem ob_eq (s : PySem.W.SharedT) : ob s = hk.obs s.abs := He.obsX_eq (HandSHeadRun.getT_eq s)
theorem runF (w : World) : HandSHeadRun.RunEq R (PySem.W.view R.prog [41]) hk ob 3000 (names ++ consts) (w.withFollow "special-get-raises" false) := by
  intro os
  kernel_rfl
theorem runT (w : World) : HandSHeadRun.RunEq R (PySem.W.view R.prog [41]) hk ob 3000 (names ++ consts) (w.withFollow "special-get-raises" true) := by
  intro os
  kernel_rfl
theorem run (w : World) : HandSHeadRun.RunEq R (PySem.W.view R.prog [41]) hk ob 3000 (names ++ consts) w :=
  PySem.W.byRow2 "special-get-raises" (P := fun w => HandSHeadRun.RunEq R (PySem.W.view R.prog [41]) hk ob 3000 (names ++ consts) w) runF runT w
end K17H

set_option Elab.async false
set_option linter.all false
set_option maxRecDepth 100000
set_option maxHeartbeats 0
namespace K17
open PySem PySem.Spec PyProof.Rows L2
theorem facts {P : Program} {w : World} {K : PySem.W.Frag} {h : Heap} {mg : Str → Option Value} {f : Addr} (X : K.In h) (G : h.Ns mainGlobals mg) (hfa : mg ("law" : Str) = some (.ref f)) (c : He.SaysX K17H.fa K17H.fn K17H.ts [] K17H.ex w h K) :
    ∃ fd : FuncData, (∀ (s : Shared) (v : Value), BindsTo s fd ⟨[v], []⟩ [("_law_script", v)]) ∧ ∀ base : Heap, K.In base → base.Ns mainGlobals mg → FnOk P w K mg base CX0 8 f fd ["_law_script"] (spLaw K) := by
  have fn_ : ∀ (j i : Nat) (x : Str), K17H.fn[j]? = some (K17H.dD x i) → K17H.fa[j]? = some (.glo x) → Fn K mg x i := by
    intro j i x h1 h2
    obtain ⟨fd, F⟩ := c.t.d.def_ j (d := K17H.dD x i) h1
    exact ⟨_, fd, F, He.glo_ok X G (c.t.d.fact j (f := .glo x) h2)⟩
  have fr_ : ∀ (j : Nat) (x : Str), K17H.fa[j]? = some (.free x) → mg x = none := fun j x e => He.free_ok X G (c.t.d.fact j (f := .free x) e)
  have in_ : ∀ (j : Nat) (x : Str) (z : Int), K17H.fa[j]? = some (.int x z) → ∃ t, mg x = some (.int z t) := fun j x z e => He.int_ok X G (c.t.d.fact j (f := .int x z) e)
  have T : Txt K mg := ⟨fr_ 27 "abs" rfl, fr_ 28 "int" rfl, fr_ 29 "range" rfl, fr_ 30 "len" rfl, fr_ 31 "max" rfl, fr_ 32 "min" rfl, fr_ 33 "sum" rfl, fr_ 34 "all" rfl, fr_ 35 "tuple" rfl, fr_ 36 "list" rfl, fr_ 37 "sorted" rfl, fr_ 38 "zip" rfl,
    in_ 39 "MOST_POINTS" _ rfl, in_ 40 "MOST_PARTS" _ rfl, in_ 41 "MOST_KINDS" _ rfl, in_ 42 "MOST_LISTED" _ rfl, in_ 43 "MOST_LISTED_KINDS" _ rfl, in_ 44 "MOST_LENGTH" _ rfl, in_ 45 "MOST_FIGURES" _ rfl, in_ 46 "MOST_MEMBERS" _ rfl⟩
  have M : Mem K w mg (He.ga K "MEMBERS") := by
    refine ⟨He.glo_ok X G (c.t.d.fact 26 (f := .glo "MEMBERS") rfl), c.t.tab 0 (t := (fun K => He.ga K "MEMBERS", K17H.mKeys)) rfl, fun q hq => ?_⟩
    exact He.valsB_ok (kvs := K17H.mVals) c.more (q := (q.1, .int q.2)) (List.mem_map (f := fun q : Str × Int => (q.1, He.Dv.int q.2)) |>.mpr ⟨q, hq, rfl⟩)
  have F1 : Fn1 K mg "checked_part" 19 (.int 1) := by
    obtain ⟨fd, F⟩ := c.t.d.def_ 5 (d := K17H.dD "checked_part" 19 [.int 1]) rfl
    exact ⟨_, fd, F, He.glo_ok X G (c.t.d.fact 5 (f := .glo "checked_part") rfl)⟩
  obtain ⟨fd, F⟩ := c.t.d.def_ 25 (d := K17H.dD "law" 41) rfl
  have e := hfa.symm.trans (He.glo_ok X G (c.t.d.fact 25 (f := .glo "law") rfl))
  cases e
  have b := FunD.bindsA (ps := ["_law_script"]) F fun _ _ _ _ _ _ us hl => match us, hl with | [_], _ => rfl
  refine ⟨fd, fun s v => b s [v] rfl, fun base _ _ => ?_⟩
  · have R := has_require (P := P) (w := w) (base := base) (fn_ 0 14 "require" rfl rfl)
    have C1 := has_choose (P := P) (w := w) (base := base) (fn_ 1 15 "choose" rfl rfl) T
    have C2 := has_power (P := P) (w := w) (base := base) (fn_ 2 16 "power_of" rfl rfl) T
    have CW := has_ways (P := P) (w := w) (base := base) (fn_ 3 17 "ways_of" rfl rfl) T
    have CC := has_crows (fn_ 4 18 "checked_rows" rfl rfl) T R CW
    have CP := has_part F1 T M R C1 C2 CC 2
    have CK := has_checked (fn_ 6 20 "checked" rfl rfl) CP
    have PT := has_points (fn_ 7 21 "point_count" rfl rfl) CP
    have KD := has_kinds (P := P) (w := w) (base := base) (fn_ 8 22 "kinds_of" rfl rfl) T
    have VL := has_val (fn_ 9 24 "valencies_of" rfl rfl) T C1 C2 KD 2
    have W := has_words (fn_ 10 25 "number_of_words" rfl rfl) T C1 C2
    have S := has_sets (fn_ 11 26 "number_of_sets" rfl rfl) T C1
    have LI := has_listed (P := P) (w := w) (base := base) (fn_ 12 27 "number_listed" rfl rfl) T
    have NI := has_num (fn_ 13 28 "number_in" rfl rfl) T W S LI KD 2
    have CC2 := has_ck (fn_ 14 29 "checked_kinds" rfl rfl) T CK (KD 2)
    have VS := has_vals (fn_ 15 30 "valencies" rfl rfl) CK VL
    have WF := has_wf (fn_ 16 31 "ways_for" rfl rfl) CC2 NI
    have NO := has_nof (fn_ 17 32 "numbers_of" rfl rfl) T CC2 (KD 2) NI
    have LR := has_row (P := P) (w := w) (base := base) (fn_ 18 34 "_law_row" rfl rfl) T
    have LN := has_numbers (fn_ 19 35 "_law_numbers" rfl rfl) T LR
    have LS := has_lsets (P := P) (w := w) (base := base) (fn_ 20 36 "_law_sets" rfl rfl) T
    have LT := has_table (fn_ 21 37 "_law_table" rfl rfl) T LS
    have LH := has_shuf (P := P) (w := w) (base := base) (fn_ 22 38 "_law_shuffled" rfl rfl) T
    have LE := has_ren (fn_ 23 39 "_law_renamed" rfl rfl) T LH
    have LO := has_some (fn_ 24 40 "_law_some" rfl rfl) T LE LT
    exact ok_law F T LN LO VS PT NO WF
end K17
open PySem PySem.W PySem.Calls PyProof.Rows
theorem PySem.Challenge.cw_schemebound_k17_whole_numbers_holds : PySem.Challenge.rw_schemebound_k17_whole_numbers.Holds := by
  w_on; o_law
  refine HandSHeadRun.head_any (r := OpenLaw.row PySem.Challenge.rw_schemebound_k17_whole_numbers) (q := view (OpenLaw.row PySem.Challenge.rw_schemebound_k17_whole_numbers).prog [41]) (H := K17H.hk) (ob := K17H.ob) (M := 3000) (loose := K17H.names ++ K17H.consts) (d := HandSHeadRun.topDef (OpenLaw.row PySem.Challenge.rw_schemebound_k17_whole_numbers).prog 41) (kwd := []) K17H.ob_eq
    (by kernel_rfl) (fun s => by kernel_rfl) K17H.run (by kernel_rfl) (by kernel_rfl) (by kernel_rfl) (by rfl) (by first | assumption | decide +kernel) (by decide +kernel) ⟨rfl, rfl, rfl, rfl, rfl, by decide +kernel⟩ ?hw ?hc
  case hw => w_witness2
  case hc =>
    refine L2.walk_ofE (l := PySem.Challenge.rw_schemebound_k17_whole_numbers) (n := 63) (k := 8) (x := "_law_script") (CX := L2.CX0) rfl (by decide) (by kernel_rfl) ⟨rfl, by decide, by decide⟩ ?F (fun _ _ _ _ z => z)
    intro w mg fa h Y G hmg0
    obtain ⟨K, KX, c⟩ := Y
    have hmg : mg ("law" : PySem.Str) = some (.ref fa) := by
      have e : (HandSHeadRun.topDef (OpenLaw.row PySem.Challenge.rw_schemebound_k17_whole_numbers).prog 41).name = ("law" : PySem.Str) := by kernel_rfl
      rw [← e]
      exact hmg0
    obtain ⟨fd, hb, hF⟩ := K17.facts (P := (PySem.Challenge.rw_schemebound_k17_whole_numbers).prog) (w := w) KX G hmg c
    exact ⟨K, fd, K17.spLaw K, KX, hb, fun H a ns hl _ hS => ⟨a, ns, rfl, hS, fun _ => rfl⟩, hF⟩
