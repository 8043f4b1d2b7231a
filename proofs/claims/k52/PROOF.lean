import PyProof.Rows.All
import Wide.All
import OpenK.AllK
import Wide.FinOn
import HandS.ForMost
import HandS.ForExc
import HandS.IsInst
import HandS.Wide
import HandS.Style
import HandS.ExcInit
import HandS.ExcValue
import HandS.ExcIs
import HandS.ExcField
import HandS.Lambda
import HandS.EndTab
import KE.KTupSum
import PyProof.ReprRoads
import PySem.Challenge.RW_hindprice_k52_whole_best_rests_by_all_wo
import KE.KDflt
set_option Elab.async false
set_option linter.all false
set_option maxRecDepth 100000
set_option maxHeartbeats 8000000
/-! Plain mathematics of the law: sums over words. -/
namespace K52

/-! ### sums -/
def sumTo : Nat → (Nat → Nat) → Nat
  | 0, _ => 0
  | n + 1, f => sumTo n f + f n
theorem sumTo_congr {f g : Nat → Nat} : ∀ {n : Nat}, (∀ i, i < n → f i = g i) → sumTo n f = sumTo n g
  | 0, _ => rfl
  | n + 1, h => by
    show sumTo n f + f n = sumTo n g + g n
    rw [sumTo_congr (n := n) fun i hi => h i (Nat.lt_succ_of_lt hi), h n (Nat.lt_succ_self n)]
theorem sumTo_add (f g : Nat → Nat) : ∀ n, sumTo n (fun i => f i + g i) = sumTo n f + sumTo n g
  | 0 => rfl
  | n + 1 => by
    show sumTo n (fun i => f i + g i) + (f n + g n) = sumTo n f + f n + (sumTo n g + g n)
    rw [sumTo_add f g n]; omega
theorem sumTo_zero : ∀ n, sumTo n (fun _ => 0) = 0
  | 0 => rfl
  | n + 1 => by show sumTo n (fun _ => 0) + 0 = 0; rw [sumTo_zero n]
theorem sumTo_mul_left (c : Nat) (f : Nat → Nat) : ∀ n, sumTo n (fun i => c * f i) = c * sumTo n f
  | 0 => rfl
  | n + 1 => by
    show sumTo n (fun i => c * f i) + c * f n = c * (sumTo n f + f n)
    rw [sumTo_mul_left c f n, Nat.mul_add]
/-- the first term apart -/
theorem sumTo_first (f : Nat → Nat) : ∀ n, sumTo (n + 1) f = f 0 + sumTo n (fun i => f (i + 1))
  | 0 => by show 0 + f 0 = f 0 + 0; omega
  | n + 1 => by
    show sumTo (n + 1) f + f (n + 1) = f 0 + (sumTo n (fun i => f (i + 1)) + f (n + 1))
    rw [sumTo_first f n]; omega
theorem sumTo_swap (f : Nat → Nat → Nat) (m : Nat) : ∀ n, sumTo n (fun i => sumTo m (fun j => f i j)) = sumTo m (fun j => sumTo n (fun i => f i j))
  | 0 => (sumTo_zero m).symm
  | n + 1 => by
    show sumTo n (fun i => sumTo m (fun j => f i j)) + sumTo m (fun j => f n j) = sumTo m (fun j => sumTo n (fun i => f i j) + f n j)
    rw [sumTo_swap f m n, sumTo_add]
theorem sumTo_le {f : Nat → Nat} {b : Nat} : ∀ {n : Nat}, (∀ i, i < n → f i ≤ b) → sumTo n f ≤ n * b
  | 0, _ => by simp [sumTo]
  | n + 1, h => by
    show sumTo n f + f n ≤ (n + 1) * b
    have h1 := sumTo_le (n := n) fun i hi => h i (Nat.lt_succ_of_lt hi)
    have h2 := h n (Nat.lt_succ_self n)
    rw [Nat.add_mul, Nat.one_mul]; omega
theorem sumTo_more (f : Nat → Nat) (a : Nat) : ∀ n, sumTo (a + n) f = sumTo a f + sumTo n (fun i => f (a + i))
  | 0 => rfl
  | n + 1 => by
    show sumTo (a + n) f + f (a + n) = sumTo a f + (sumTo n (fun i => f (a + i)) + f (a + n))
    rw [sumTo_more f a n]; omega
/-- by digits: the lowest one and the rest -/
theorem sumTo_digits (g : Nat) (hg : 0 < g) (F : Nat → Nat → Nat) : ∀ n, sumTo (n * g) (fun w => F (w % g) (w / g)) = sumTo g (fun r => sumTo n (fun q => F r q))
  | 0 => by
    rw [Nat.zero_mul]
    show 0 = sumTo g (fun _ => 0)
    rw [sumTo_zero]
  | n + 1 => by
    rw [Nat.add_mul, Nat.one_mul, sumTo_more, sumTo_digits g hg F n]
    show _ = sumTo g (fun r => sumTo n (fun q => F r q) + F r n)
    rw [sumTo_add]
    congr 1
    refine sumTo_congr fun i hi => ?_
    have h1 : (n * g + i) % g = i := by rw [Nat.mul_comm, Nat.mul_add_mod, Nat.mod_eq_of_lt hi]
    have h2 : (n * g + i) / g = n := by rw [Nat.mul_comm, Nat.mul_add_div hg, Nat.div_eq_of_lt hi, Nat.add_zero]
    rw [h1, h2]

/-! ### lots -/
def ch : Nat → Nat → Nat
  | _, 0 => 1
  | 0, _ + 1 => 0
  | n + 1, k + 1 => ch n k + ch n (k + 1)
theorem ch_zero (n : Nat) : ch n 0 = 1 := by cases n <;> rfl
theorem ch_over : ∀ n k, n < k → ch n k = 0
  | _, 0, h => absurd h (Nat.not_lt_zero _)
  | 0, _ + 1, _ => rfl
  | n + 1, k + 1, h => by
    show ch n k + ch n (k + 1) = 0
    rw [ch_over n k (by omega), ch_over n (k + 1) (by omega)]
theorem ch_absorb : ∀ n k, (k + 1) * ch (n + 1) (k + 1) = (n + 1) * ch n k
  | 0, 0 => rfl
  | 0, k + 1 => by
    show (k + 1 + 1) * (ch 0 (k + 1) + ch 0 (k + 2)) = (0 + 1) * ch 0 (k + 1)
    rfl
  | n + 1, 0 => by
    have ih : (0 + 1) * ch (n + 1) (0 + 1) = (n + 1) * ch n 0 := ch_absorb n 0
    rw [ch_zero] at ih
    show (0 + 1) * (ch (n + 1) 0 + ch (n + 1) (0 + 1)) = (n + 1 + 1) * ch (n + 1) 0
    rw [ch_zero, Nat.mul_add, ih]; omega
  | n + 1, k + 1 => by
    have h1 := ch_absorb n k
    have h2 := ch_absorb n (k + 1)
    have e1 : ch (n + 1 + 1) (k + 1 + 1) = ch (n + 1) (k + 1) + ch (n + 1) (k + 1 + 1) := rfl
    have e2 : ch (n + 1) (k + 1) = ch n k + ch n (k + 1) := rfl
    rw [e1, Nat.mul_add, h2, show (k + 1 + 1) * ch (n + 1) (k + 1) = (k + 1) * ch (n + 1) (k + 1) + ch (n + 1) (k + 1) from by rw [Nat.add_mul (k + 1) 1, Nat.one_mul], h1]
    rw [show (n + 1 + 1) * ch (n + 1) (k + 1) = (n + 1) * ch (n + 1) (k + 1) + ch (n + 1) (k + 1) from by rw [Nat.add_mul (n + 1) 1, Nat.one_mul], e2, Nat.mul_add]
    omega
theorem ch_step (n k : Nat) : ch n (k + 1) * (k + 1) = ch n k * (n - k) := by
  cases n with
  | zero =>
    cases k with
    | zero => rfl
    | succ k => show 0 * _ = ch 0 (k + 1) * _; show 0 * _ = 0 * _; rw [Nat.zero_mul, Nat.zero_mul]
  | succ n =>
    induction n generalizing k with
    | zero =>
      cases k with
      | zero => rfl
      | succ k =>
        have e : ch (0 + 1) (k + 1 + 1) = 0 := ch_over _ _ (by omega)
        rw [e, Nat.zero_mul, show (0 + 1 : Nat) - (k + 1) = 0 by omega, Nat.mul_zero]
    | succ n ih =>
      cases k with
      | zero =>
        have h := ch_absorb (n + 1) 0
        rw [ch_zero] at h ⊢
        omega
      | succ k =>
        have h1 := ch_absorb (n + 1) k
        have h2 := ch_absorb (n + 1) (k + 1)
        have h3 := ih k
        -- (k+2) C(n+2,k+2) = (n+2) C(n+1,k+1);  C(n+1,k+1) (k+1) = C(n+1,k) (n+1-k);  (k+1) C(n+2,k+1) = (n+2) C(n+1,k)
        have e1 : ch (n + 1 + 1) (k + 1 + 1) * (k + 1 + 1) = (n + 1 + 1) * ch (n + 1) (k + 1) := by rw [Nat.mul_comm]; exact h2
        rw [e1]
        have e2 : n + 1 + 1 - (k + 1) = n + 1 - k := by omega
        rw [e2]
        refine Nat.eq_of_mul_eq_mul_left (Nat.succ_pos k) ?_
        show (k + 1) * ((n + 1 + 1) * ch (n + 1) (k + 1)) = (k + 1) * (ch (n + 1 + 1) (k + 1) * (n + 1 - k))
        rw [← Nat.mul_assoc (k + 1) (ch (n + 1 + 1) (k + 1)), h1, Nat.mul_assoc (n + 1 + 1) (ch (n + 1) k), ← h3]
        rw [← Nat.mul_assoc, Nat.mul_comm (k + 1) (n + 1 + 1), Nat.mul_assoc, Nat.mul_comm (k + 1)]
/-- the loops' step -/
theorem ch_next (n k : Nat) : ch n k * (n - k) / (k + 1) = ch n (k + 1) := by
  rw [← ch_step, Nat.mul_div_cancel _ (Nat.succ_pos k)]
theorem ch_le : ∀ n k, ch n k ≤ 2 ^ n
  | 0, 0 => by decide
  | 0, _ + 1 => by show 0 ≤ _; omega
  | n + 1, 0 => by rw [ch_zero]; exact Nat.one_le_two_pow
  | n + 1, k + 1 => by
    have h1 := ch_le n k
    have h2 := ch_le n (k + 1)
    show ch n k + ch n (k + 1) ≤ 2 ^ (n + 1)
    rw [Nat.pow_succ]; omega

/-! ### partings -/
def conv (f t : Nat → Nat) (n : Nat) : Nat := sumTo (n + 1) (fun m => ch n m * f (n - m) * t m)
theorem conv_congr {f g t u : Nat → Nat} {n : Nat} (h : ∀ i, i ≤ n → f i = g i) (h2 : ∀ i, i ≤ n → t i = u i) : conv f t n = conv g u n := by
  refine sumTo_congr fun i hi => ?_
  show ch n i * f (n - i) * t i = ch n i * g (n - i) * u i
  rw [h (n - i) (by omega), h2 i (by omega)]
/-- one more: on the one side or on the other -/
theorem conv_succ (f t : Nat → Nat) (n : Nat) : conv f t (n + 1) = conv (fun i => f (i + 1)) t n + conv f (fun i => t (i + 1)) n := by
  unfold conv
  have key : ∀ m, ch (n + 1) m * f (n + 1 - m) * t m = ch n m * f (n + 1 - m) * t m + (match m with | 0 => 0 | j + 1 => ch n j * f (n - j) * t (j + 1)) := by
    intro m
    cases m with
    | zero => show ch (n + 1) 0 * f (n + 1 - 0) * t 0 = ch n 0 * f (n + 1 - 0) * t 0 + 0; rw [ch_zero, ch_zero]; exact (Nat.add_zero _).symm
    | succ j =>
      show (ch n j + ch n (j + 1)) * f (n + 1 - (j + 1)) * t (j + 1) = ch n (j + 1) * f (n + 1 - (j + 1)) * t (j + 1) + ch n j * f (n - j) * t (j + 1)
      rw [show n + 1 - (j + 1) = n - j by omega, Nat.add_mul, Nat.add_mul, Nat.add_comm]
  rw [sumTo_congr (fun m _ => key m), sumTo_add]
  congr 1
  · show sumTo (n + 1) (fun m => ch n m * f (n + 1 - m) * t m) + ch n (n + 1) * f (n + 1 - (n + 1)) * t (n + 1) = _
    rw [ch_over n (n + 1) (by omega), Nat.zero_mul, Nat.zero_mul, Nat.add_zero]
    refine sumTo_congr fun i hi => ?_
    show ch n i * f (n + 1 - i) * t i = ch n i * f (n - i + 1) * t i
    rw [show n + 1 - i = n - i + 1 by omega]
  · rw [sumTo_first]
    show 0 + _ = _
    rw [Nat.zero_add]
theorem conv_sum (k : Nat) (F : Nat → Nat → Nat) (t : Nat → Nat) (n : Nat) : conv (fun i => sumTo k (fun g => F g i)) t n = sumTo k (fun g => conv (F g) t n) := by
  unfold conv
  rw [sumTo_swap]
  refine sumTo_congr fun m _ => ?_
  show ch n m * sumTo k (fun g => F g (n - m)) * t m = sumTo k (fun g => ch n m * F g (n - m) * t m)
  rw [← sumTo_mul_left, Nat.mul_comm, ← sumTo_mul_left]
  exact sumTo_congr fun g _ => Nat.mul_comm _ _

/-! ### towers, rows -/
def tw (n : Nat) : Nat := n ^ n
theorem tw_pos (n : Nat) : 0 < tw n := by
  unfold tw
  cases n with
  | zero => decide
  | succ n => exact Nat.pow_pos (Nat.succ_pos n)
def delta (n : Nat) : Nat := if n = 0 then 1 else 0
/-- what the days make of the goods gone through, by how many days -/
def rows (c : List Nat) : Nat → Nat := c.foldl (fun row x => conv row (fun m => tw (x + m))) delta
theorem rows_snoc (c : List Nat) (x : Nat) : rows (c ++ [x]) = conv (rows c) (fun m => tw (x + m)) := by
  unfold rows
  rw [List.foldl_append]
  rfl
def bump (c : List Nat) (g : Nat) : List Nat := c.set g (c.getD g 0 + 1)
theorem bump_len (c : List Nat) (g : Nat) : (bump c g).length = c.length := by unfold bump; rw [List.length_set]
theorem bump_snoc_lt {c : List Nat} {x g : Nat} (h : g < c.length) : bump (c ++ [x]) g = bump c g ++ [x] := by
  unfold bump
  rw [List.set_append_left _ _ h, List.getD_eq_getElem?_getD, List.getElem?_append_left h, ← List.getD_eq_getElem?_getD]
theorem bump_snoc_eq (c : List Nat) (x : Nat) : bump (c ++ [x]) c.length = c ++ [x + 1] := by
  unfold bump
  rw [List.set_append_right _ _ (Nat.le_refl _), Nat.sub_self, List.getD_eq_getElem?_getD, List.getElem?_append_right (Nat.le_refl _), Nat.sub_self]
  rfl
theorem bump_sum : ∀ {c : List Nat} {g : Nat}, g < c.length → (bump c g).sum = c.sum + 1
  | [], _, h => absurd h (Nat.not_lt_zero _)
  | x :: r, 0, _ => by show (x + 1) + r.sum = x + r.sum + 1; omega
  | x :: r, g + 1, h => by
    have ih := bump_sum (c := r) (g := g) (Nat.lt_of_succ_lt_succ h)
    show x + (bump r g).sum = x + r.sum + 1
    rw [ih]; omega
/-- the sum over all words -/
def S : Nat → List Nat → Nat
  | 0, c => (c.map tw).foldr (· * ·) 1
  | d + 1, c => sumTo c.length (fun g => S d (bump c g))
theorem snoc_of : ∀ {c : List Nat} {n : Nat}, c.length = n + 1 → ∃ b x, c = b ++ [x] ∧ b.length = n
  | c, n, h => by
    have hne : c ≠ [] := fun z => by rw [z] at h; cases h
    refine ⟨c.dropLast, c.getLast hne, (List.dropLast_concat_getLast hne).symm, ?_⟩
    rw [List.length_dropLast, h]; rfl
theorem rows_zero : ∀ (n : Nat) (c : List Nat), c.length = n → rows c 0 = (c.map tw).foldr (· * ·) 1
  | 0, c, h => by
    rw [List.length_eq_zero_iff.mp h]
    rfl
  | n + 1, c, h => by
    obtain ⟨b, x, rfl, hb⟩ := snoc_of h
    rw [rows_snoc]
    show 0 + ch 0 0 * rows b (0 - 0) * tw (x + 0) = _
    rw [ch_zero, Nat.zero_add, Nat.one_mul, rows_zero n b hb, List.map_append, List.foldr_append]
    show _ = (b.map tw).foldr (· * ·) (tw x * 1)
    have go : ∀ (l : List Nat) (z : Nat), l.foldr (· * ·) z = l.foldr (· * ·) 1 * z := by
      intro l z
      induction l with
      | nil => show z = 1 * z; rw [Nat.one_mul]
      | cons a l ih => show a * l.foldr (· * ·) z = a * l.foldr (· * ·) 1 * z; rw [ih, Nat.mul_assoc]
    rw [go _ (tw x * 1), Nat.mul_one, Nat.add_zero]
theorem rows_succ : ∀ (n : Nat) (c : List Nat), c.length = n → ∀ d, rows c (d + 1) = sumTo c.length (fun g => rows (bump c g) d)
  | 0, c, h, d => by
    rw [List.length_eq_zero_iff.mp h]
    rfl
  | n + 1, c, h, d => by
    obtain ⟨b, x, rfl, hb⟩ := snoc_of h
    rw [rows_snoc, conv_succ]
    rw [List.length_append, List.length_singleton]
    show _ = sumTo b.length (fun g => rows (bump (b ++ [x]) g) d) + rows (bump (b ++ [x]) b.length) d
    congr 1
    · rw [conv_congr (g := fun i => sumTo b.length (fun g => rows (bump b g) i)) (fun i _ => rows_succ n b hb i) (fun _ _ => rfl), conv_sum]
      refine sumTo_congr fun g hg => ?_
      rw [bump_snoc_lt hg, rows_snoc]
    · rw [bump_snoc_eq, rows_snoc]
      refine conv_congr (fun _ _ => rfl) fun i _ => ?_
      show tw (x + (i + 1)) = tw (x + 1 + i)
      rw [show x + (i + 1) = x + 1 + i by omega]
/-- the program's rows are the sums over all words -/
theorem rows_S : ∀ (d : Nat) (c : List Nat), rows c d = S d c
  | 0, c => rows_zero _ c rfl
  | d + 1, c => by
    rw [rows_succ _ c rfl]
    exact sumTo_congr fun g _ => rows_S d (bump c g)

/-! ### bounds -/
theorem pow_le_of {a b n : Nat} (h : a ≤ b) : a ^ n ≤ b ^ n := Nat.pow_le_pow_left h n
theorem tw_mul_le (a b : Nat) : tw a * tw b ≤ tw (a + b) := by
  unfold tw
  rw [Nat.pow_add]
  exact Nat.mul_le_mul (pow_le_of (Nat.le_add_right a b)) (pow_le_of (Nat.le_add_left b a))
theorem prod_le : ∀ c : List Nat, (c.map tw).foldr (· * ·) 1 ≤ tw c.sum
  | [] => by decide
  | x :: r => by
    show tw x * (r.map tw).foldr (· * ·) 1 ≤ tw (x + r.sum)
    exact Nat.le_trans (Nat.mul_le_mul_left _ (prod_le r)) (tw_mul_le _ _)
theorem S_le : ∀ (d : Nat) (c : List Nat), S d c ≤ c.length ^ d * tw (c.sum + d)
  | 0, c => by
    show (c.map tw).foldr (· * ·) 1 ≤ c.length ^ 0 * tw (c.sum + 0)
    rw [Nat.pow_zero, Nat.one_mul]
    exact prod_le c
  | d + 1, c => by
    have h : sumTo c.length (fun g => S d (bump c g)) ≤ c.length * (c.length ^ d * tw (c.sum + (d + 1))) := sumTo_le fun g hg => by
      have q := S_le d (bump c g)
      rw [bump_len, bump_sum hg, show c.sum + 1 + d = c.sum + (d + 1) by omega] at q
      exact q
    show sumTo c.length (fun g => S d (bump c g)) ≤ _
    rw [← Nat.mul_assoc, Nat.mul_comm c.length, ← Nat.pow_succ] at h
    exact h
theorem tw_lt {n : Nat} (h : n ≤ 100) : tw n < 2 ^ 701 := by
  unfold tw
  have h1 : n ^ n ≤ 128 ^ n := pow_le_of (by omega)
  have h2 : (128 : Nat) ^ n ≤ 128 ^ 100 := Nat.pow_le_pow_right (by decide) h
  have h3 : (128 : Nat) ^ 100 < 2 ^ 701 := by decide +kernel
  omega
theorem S_lt {d : Nat} {c : List Nat} (hl : c.length ≤ 8) (h : c.sum + d ≤ 100) : S d c < 2 ^ 1001 := by
  have h0 := S_le d c
  have h1 : c.length ^ d ≤ 8 ^ d := pow_le_of hl
  have h2 : (8 : Nat) ^ d ≤ 8 ^ 100 := Nat.pow_le_pow_right (by decide) (by omega)
  have h3 : tw (c.sum + d) ≤ 128 ^ 100 := by
    unfold tw
    exact Nat.le_trans (pow_le_of (by omega)) (Nat.pow_le_pow_right (by decide) h)
  have h4 : c.length ^ d * tw (c.sum + d) ≤ 8 ^ 100 * 128 ^ 100 := Nat.mul_le_mul (Nat.le_trans h1 h2) h3
  have h5 : (8 : Nat) ^ 100 * 128 ^ 100 < 2 ^ 1001 := by decide +kernel
  omega
theorem rows_lt {d : Nat} {c : List Nat} (hl : c.length ≤ 8) (h : c.sum + d ≤ 100) : rows c d < 2 ^ 1001 := by
  rw [rows_S]; exact S_lt hl h

/-! ### the law's own listing -/
/-- the counts behind a word, told as an integer, its lowest digit first -/
def addD (g : Nat) : Nat → Nat → List Nat → List Nat
  | 0, _, c => c
  | d + 1, w, c => addD g d (w / g) (bump c (w % g))
theorem addD_len (g : Nat) : ∀ (d w : Nat) (c : List Nat), (addD g d w c).length = c.length
  | 0, _, _ => rfl
  | d + 1, w, c => by
    show (addD g d (w / g) (bump c (w % g))).length = _
    rw [addD_len g d, bump_len]
theorem addD_sum (g : Nat) (hg : 0 < g) : ∀ (d w : Nat) (c : List Nat), c.length = g → (addD g d w c).sum = c.sum + d
  | 0, _, _, _ => rfl
  | d + 1, w, c, h => by
    show (addD g d (w / g) (bump c (w % g))).sum = _
    rw [addD_sum g hg d _ _ (by rw [bump_len, h]), bump_sum (by rw [h]; exact Nat.mod_lt _ hg)]; omega
def prodT (c : List Nat) : Nat := (c.map tw).foldr (· * ·) 1
theorem listing (g : Nat) (hg : 0 < g) : ∀ (d : Nat) (c : List Nat), c.length = g → sumTo (g ^ d) (fun w => prodT (addD g d w c)) = S d c
  | 0, c, _ => by
    show 0 + prodT c = _
    rw [Nat.zero_add]; rfl
  | d + 1, c, h => by
    rw [Nat.pow_succ]
    show sumTo (g ^ d * g) (fun w => prodT (addD g d (w / g) (bump c (w % g)))) = sumTo c.length (fun r => S d (bump c r))
    rw [sumTo_digits g hg (fun r q => prodT (addD g d q (bump c r))), h]
    refine sumTo_congr fun r hr => ?_
    exact listing g hg d (bump c r) (by rw [bump_len, h])

/-! ### numbers in their one form -/
theorem div_form {a T s u : Nat} (hT : 0 < T) (hu : 0 < u) (h : a * T = s * u) : a / Nat.gcd a u = s / Nat.gcd s T ∧ u / Nat.gcd a u = T / Nat.gcd s T := by
  have g1 : 0 < Nat.gcd a u := Nat.gcd_pos_of_pos_right _ hu
  have g2 : 0 < Nat.gcd s T := Nat.gcd_pos_of_pos_right _ hT
  have e1 : T * Nat.gcd a u = u * Nat.gcd s T := by
    rw [← Nat.gcd_mul_left, ← Nat.gcd_mul_left, Nat.mul_comm T a, h, Nat.mul_comm u s, Nat.mul_comm T u]
  have e2 : a * Nat.gcd s T = s * Nat.gcd a u := by
    rw [← Nat.gcd_mul_left, ← Nat.gcd_mul_left, h, Nat.mul_comm s a]
  constructor
  · refine Nat.div_eq_of_eq_mul_left g1 ?_
    have d2 : Nat.gcd s T ∣ s := Nat.gcd_dvd_left _ _
    refine Nat.eq_of_mul_eq_mul_right g2 ?_
    rw [e2, Nat.mul_assoc, Nat.mul_comm (Nat.gcd a u), ← Nat.mul_assoc, Nat.div_mul_cancel d2]
  · refine Nat.div_eq_of_eq_mul_left g1 ?_
    have d2 : Nat.gcd s T ∣ T := Nat.gcd_dvd_right _ _
    refine Nat.eq_of_mul_eq_mul_right g2 ?_
    rw [← e1, Nat.mul_assoc, Nat.mul_comm (Nat.gcd a u), ← Nat.mul_assoc, Nat.div_mul_cancel d2]
end K52
namespace K52
open PySem L2
/-! ### the text by places -/
def top (i : Nat) : Stmt := PySem.Challenge.pw_hindprice_k52_whole_best_rests_by_all_wo.main.body.getD i (.Pass ⟨0, 0, 0, 0⟩)
abbrev sInitB : Stmt := inClass (top 2) 0
abbrev sInitT : Stmt := inClass (top 3) 0
abbrev sIsInt : Stmt := top 6
abbrev sWithin : Stmt := top 7
abbrev sIsList : Stmt := top 8
abbrev sCommon : Stmt := top 9
abbrev sNeedInt : Stmt := top 10
abbrev sLowest : Stmt := top 12
abbrev sRaised : Stmt := top 13
abbrev sChoose : Stmt := top 15
abbrev sTower : Stmt := top 21
abbrev sJoined : Stmt := top 22
abbrev sRestBy : Stmt := top 23
abbrev sPrices : Stmt := top 24
abbrev sNeedC : Stmt := top 25
abbrev sBestP : Stmt := top 26
abbrev sAllB : Stmt := top 27
abbrev sBestR : Stmt := top 28
abbrev sCrate : Stmt := top 30
abbrev sFill : Stmt := top 31
abbrev sOneOf : Stmt := top 32
abbrev sNumber : Stmt := top 33
abbrev sHalves : Stmt := top 34
abbrev sLTower : Stmt := top 35
abbrev sLWorth : Stmt := top 36
abbrev sLRest : Stmt := top 37
abbrev sHeard : Stmt := top 38
abbrev sSumR : Stmt := top 39
abbrev sLaw : Stmt := top 40

/-! ### small words -/
theorem same_upd {H : Hp} {p : Addr} {o : HO} (h : H p = none) : Same H (upd H p o) := fun b x e => by
  rw [upd_ne (ne_of_none e h)]
  exact e
theorem sameT {K : PySem.W.Frag} {H H' : Hp} {a : Addr} {xs : List V} (e : Same H H') (h : SqT K H a xs) : SqT K H' a xs := by
  rcases h with (h | ⟨o, h⟩) | h
  · exact .inl (.inl (e _ _ h))
  · exact .inl (.inr ⟨o, e _ _ h⟩)
  · exact .inr h

/-! ### kinds of values -/
inductive Kd where
  | non | bl (b : Bool) | int (i : Int) | str (x : Str) | lst (xs : List V) | tup (xs : List V) | dct
def KdAt (H : Hp) (v : V) : Kd → Prop
  | .non => v = .non
  | .bl b => v = .bl b
  | .int i => v = .int i
  | .str x => v = .str x
  | .lst xs => ∃ a, v = .ref a ∧ H a = some (.lst xs)
  | .tup xs => ∃ a, v = .ref a ∧ H a = some (.tup xs)
  | .dct => ∃ a, v = .ref a ∧ H a = some (.dK [])
def Kd.name : Kd → String
  | .non => "NoneType" | .bl _ => "bool" | .int _ => "int" | .str _ => "str" | .lst _ => "list" | .tup _ => "tuple" | .dct => "dict"
theorem KdAt.ty {K : PySem.W.Frag} {H : Hp} {v : V} : ∀ {k : Kd}, KdAt H v k → TyX K H v (.type k.name)
  | .non, h => by cases (show v = .non from h); exact .base .non
  | .bl b, h => by cases (show v = .bl b from h); exact .base (.bl b)
  | .int i, h => by cases (show v = .int i from h); exact .base (.int i)
  | .str x, h => by cases (show v = .str x from h); exact .base (.str x)
  | .lst xs, h => by obtain ⟨a, rfl, e⟩ := h; exact .base (.lst e)
  | .tup xs, h => by obtain ⟨a, rfl, e⟩ := h; exact .base (.tup e)
  | .dct, h => by obtain ⟨a, rfl, e⟩ := h; exact .base (.dK e)
theorem KdAt.same {H H' : Hp} (s : Same H H') {v : V} : ∀ {k : Kd}, KdAt H v k → KdAt H' v k
  | .non, h => h
  | .bl _, h => h
  | .int _, h => h
  | .str _, h => h
  | .lst _, h => by obtain ⟨a, e1, e⟩ := h; exact ⟨a, e1, s _ _ e⟩
  | .tup _, h => by obtain ⟨a, e1, e⟩ := h; exact ⟨a, e1, s _ _ e⟩
  | .dct, h => by obtain ⟨a, e1, e⟩ := h; exact ⟨a, e1, s _ _ e⟩

/-! ### a def of the module, by its name -/
structure Dn (P : Program) (w : World) (K : PySem.W.Frag) (mg : Str → Option Value) (base : Heap) (CX : CXT) (k : Nat) (x : Str) (ps : List Str) (sp : Sp) : Prop where
  ex : ∃ (f : Addr) (fd : FuncData), FnOk P w K mg base CX k f fd ps sp ∧ mg x = some (.ref f) ∧ PySem.W.keepIn K (.ref f) = true ∧ Binds K fd ps []
section
variable {X : Cx} {k j : Nat} {ps : List Str} {sp : Sp} {x : Str} {p pos : Pos} {e : Expr} {es : List Expr} {t : TA}
/-- x(e, ..), a def that raises nothing -/
theorem pe_d (D : Dn X.prog X.w X.K X.mg X.base CX0 j x ps sp) (hr : Room k X.A) (hg : Gl X x) (ha : PA X (e :: es) t) (hj : j ≤ k := by decide) (hdb : (x == ("__debug__" : Str)) = false := by decide)
    (he : starEach (e :: es) X.env = (false, eval e X.env) :: starEach es X.env := by rfl) (hpl : (backTo pos (starEach es X.env)).any (·.1) = false := by rfl) :
    PE X (.Call (.Name x p) (e :: es) [] pos) (tCall sp [] E0 t) := by
  obtain ⟨f, fd, F, hm, hk, hb⟩ := D.ex
  exact pe_call F (hr.mono hj) hg hm hk hb .nil pass0 ha hdb he hpl
/-- x(e, ..), a def whose errors go on -/
theorem pe_dX {E : XK} (D : Dn X.prog X.w X.K X.mg X.base (L2.CX X.prog X.w) j x ps sp) (hr : Room k X.A) (hg : Gl X x) (tk : Takes X (fun cls d _ H => E cls d H)) (ha : PA X (e :: es) t) (hj : j ≤ k := by decide) (hdb : (x == ("__debug__" : Str)) = false := by decide)
    (he : starEach (e :: es) X.env = (false, eval e X.env) :: starEach es X.env := by rfl) (hpl : (backTo pos (starEach es X.env)).any (·.1) = false := by rfl) :
    PE X (.Call (.Name x p) (e :: es) [] pos) (tCall sp [] E t) := by
  obtain ⟨f, fd, F, hm, hk, hb⟩ := D.ex
  exact pe_call F (hr.mono hj) hg hm hk hb .nil (passes_call tk fun _ _ _ _ h => h) ha hdb he hpl
/-- x(e, ..), a def that may raise, called where it does not -/
theorem pe_dN (D : Dn X.prog X.w X.K X.mg X.base (L2.CX X.prog X.w) j x ps sp) (hr : Room k X.A) (hg : Gl X x) (ha : PA X (e :: es) t) (hj : j ≤ k := by decide) (hdb : (x == ("__debug__" : Str)) = false := by decide)
    (he : starEach (e :: es) X.env = (false, eval e X.env) :: starEach es X.env := by rfl) (hpl : (backTo pos (starEach es X.env)).any (·.1) = false := by rfl) :
    PE X (.Call (.Name x p) (e :: es) [] pos) (tCall sp [] E0 t) := by
  obtain ⟨f, fd, F, hm, hk, hb⟩ := D.ex
  exact pe_call F (hr.mono hj) hg hm hk hb .nil passL ha hdb he hpl
end
/-- the module's names that hold built-in things, and its constants -/
structure Nm (mg : Str → Option Value) : Prop where
  isi : mg "isinstance" = none
  tint : mg "int" = none
  tbool : mg "bool" = none
  tlist : mg "list" = none
  ttup : mg "tuple" = none
  abs : mg "abs" = none
  rng : mg "range" = none
  len : mg "len" = none
  all : mg "all" = none
  sum : mg "sum" = none
  repr : mg "repr" = none
  goods : ∃ t, mg "MOST_GOODS" = some (.int 5 t)
  count : ∃ t, mg "MOST_COUNT" = some (.int 1000 t)
  lots : ∃ t, mg "MOST_LOTS" = some (.int 60 t)
  days : ∃ t, mg "MOST_BEST_DAYS" = some (.int 250 t)
  counts : ∃ t, mg "MOST_COUNTS" = some (.int 5000 t)
end K52
/-! The small defs. -/
namespace K52
open PySem L2
section
variable {P : Program} {w : World} {K : PySem.W.Frag} {mg : Str → Option Value} {base : Heap}
/-! ### isinstance of the kinds -/
theorem kb_int : ∀ k : Kd, kitB k.name "int" = some (match k with | .int _ => true | .bl _ => true | _ => false)
  | .non => show kitB "NoneType" "int" = some false from by decide +kernel
  | .bl _ => show kitB "bool" "int" = some true from by decide +kernel
  | .int _ => show kitB "int" "int" = some true from by decide +kernel
  | .str _ => show kitB "str" "int" = some false from by decide +kernel
  | .lst _ => show kitB "list" "int" = some false from by decide +kernel
  | .tup _ => show kitB "tuple" "int" = some false from by decide +kernel
  | .dct => show kitB "dict" "int" = some false from by decide +kernel
theorem kb_bool : ∀ k : Kd, kitB k.name "bool" = some (match k with | .bl _ => true | _ => false)
  | .non => show kitB "NoneType" "bool" = some false from by decide +kernel
  | .bl _ => show kitB "bool" "bool" = some true from by decide +kernel
  | .int _ => show kitB "int" "bool" = some false from by decide +kernel
  | .str _ => show kitB "str" "bool" = some false from by decide +kernel
  | .lst _ => show kitB "list" "bool" = some false from by decide +kernel
  | .tup _ => show kitB "tuple" "bool" = some false from by decide +kernel
  | .dct => show kitB "dict" "bool" = some false from by decide +kernel
theorem kb_list : ∀ k : Kd, kitB k.name "list" = some (match k with | .lst _ => true | _ => false)
  | .non => show kitB "NoneType" "list" = some false from by decide +kernel
  | .bl _ => show kitB "bool" "list" = some false from by decide +kernel
  | .int _ => show kitB "int" "list" = some false from by decide +kernel
  | .str _ => show kitB "str" "list" = some false from by decide +kernel
  | .lst _ => show kitB "list" "list" = some true from by decide +kernel
  | .tup _ => show kitB "tuple" "list" = some false from by decide +kernel
  | .dct => show kitB "dict" "list" = some false from by decide +kernel
theorem kb_tup : ∀ k : Kd, kitB k.name "tuple" = some (match k with | .tup _ => true | _ => false)
  | .non => show kitB "NoneType" "tuple" = some false from by decide +kernel
  | .bl _ => show kitB "bool" "tuple" = some false from by decide +kernel
  | .int _ => show kitB "int" "tuple" = some false from by decide +kernel
  | .str _ => show kitB "str" "tuple" = some false from by decide +kernel
  | .lst _ => show kitB "list" "tuple" = some false from by decide +kernel
  | .tup _ => show kitB "tuple" "tuple" = some true from by decide +kernel
  | .dct => show kitB "dict" "tuple" = some false from by decide +kernel
/-! ### is_integer -/
def isIntK : Kd → Bool
  | .int _ => true
  | _ => false
def spIsInt : Sp := fun vs H Q _ => ∃ (v : V) (k : Kd), vs = [v] ∧ KdAt H v k ∧ Q (.bl (isIntK k)) H
theorem scIsInt : FnScope ["value"] ["value"] (defScope sIsInt) := ⟨rfl, rfl, rfl, by decide +kernel, rfl, by decide +kernel, by decide +kernel⟩
theorem ok_isInt {f : Addr} {fd : FuncData} (F : Fun K "is_integer" "is_integer" sIsInt f fd) (N : Nm mg) : FnOk P w K mg base CX0 1 f fd ["value"] spIsInt := by
  refine F.ok scIsInt (fun vs H Q E h => ?_) (fun cdv A outer s H vs Q E hr h => ?_)
  · obtain ⟨v, k, rfl, _⟩ := h
    rfl
  · obtain ⟨v, k, rfl, hv, q⟩ := h
    refine ⟨_, pss_one (ps_ret (pe_and (pe_callB call_isi (by rfl) N.isi PyProof.Rows.boot_isinstance (pa_cons (pv 0) (pa_cons (pe_bltn (v := .ty "int") (by rfl) N.tint PyProof.Rows.boot_int rfl) pa_nil)))
      (pe_one (pe_not (pe_callB call_isi (by rfl) N.isi PyProof.Rows.boot_isinstance (pa_cons (pv 0) (pa_cons (pe_bltn (v := .ty "bool") (by rfl) N.tbool PyProof.Rows.boot_bool rfl) pa_nil))))))), ?_⟩
    refine ⟨_, rfl, ?_⟩
    refine ⟨v, .ty "int", _, _, _, rfl, .ty "int", hv.ty, kit_ty (kb_int k), _, rfl, ite2 (fun e => ?_) (fun e => ?_)⟩
    · refine ⟨_, rfl, v, .ty "bool", _, _, _, rfl, .ty "bool", hv.ty, kit_ty (kb_bool k), _, rfl, ?_⟩
      cases k <;> first | exact q | exact absurd e Bool.false_ne_true
    · cases k <;> first | exact q | exact absurd rfl e
/-! ### is_within -/
def isWithK (lo hi : Int) : Kd → Bool
  | .int i => decide (lo ≤ i) && decide (i ≤ hi)
  | _ => false
def spWithin : Sp := fun vs H Q _ => ∃ (v : V) (k : Kd) (lo hi : Int), vs = [v, .int lo, .int hi] ∧ KdAt H v k ∧ Q (.bl (isWithK lo hi k)) H
theorem scWithin : FnScope ["value", "least", "most"] ["value", "least", "most"] (defScope sWithin) := ⟨rfl, rfl, rfl, by decide +kernel, rfl, by decide +kernel, by decide +kernel⟩
theorem ok_within {f : Addr} {fd : FuncData} (F : Fun K "is_within" "is_within" sWithin f fd) (D : Dn P w K mg base CX0 1 "is_integer" ["value"] spIsInt) : FnOk P w K mg base CX0 2 f fd ["value", "least", "most"] spWithin := by
  refine F.ok scWithin (fun vs H Q E h => ?_) (fun cdv A outer s H vs Q E hr h => ?_)
  · obtain ⟨v, k, lo, hi, rfl, _⟩ := h
    rfl
  · obtain ⟨v, k, lo, hi, rfl, hv, q⟩ := h
    refine ⟨_, pss_cons (ps_if (pt_not (pt_val (pe_d D hr (by rfl) (pa_cons (pv 0) pa_nil)))) (pss_one (ps_ret pe_bl)) pss_nil)
      (pss_one (ps_ret (pe_and (pe_or (pe_cmp (pc_isN (pv 1))) (pe_one (pe_cmp (pc_le (pv 1) (pv 0)))))
        (pe_one (pe_or (pe_cmp (pc_isN (pv 2))) (pe_one (pe_cmp (pc_le (pv 0) (pv 2))))))))), ?_⟩
    refine ⟨v, rfl, v, k, rfl, hv, _, rfl, ?_⟩
    by_cases hk : ∃ i, k = .int i
    · obtain ⟨i, rfl⟩ := hk
      obtain rfl : v = .int i := hv
      refine iteF ?_
      refine ⟨_, rfl, _, rfl, iteF ⟨_, rfl, _, rfl, lo, i, rfl, rfl, _, rfl, ?_⟩⟩
      show if decide (lo ≤ i) = true then _ else _
      by_cases h1 : lo ≤ i
      · rw [decide_eq_true h1]
        refine iteT ⟨_, rfl, _, rfl, iteF ⟨_, rfl, _, rfl, i, hi, rfl, rfl, ?_⟩⟩
        have e : isWithK lo hi (.int i) = decide (i ≤ hi) := by
          show (decide (lo ≤ i) && decide (i ≤ hi)) = _
          rw [decide_eq_true h1, Bool.true_and]
        rw [e] at q
        exact q
      · rw [decide_eq_false h1]
        have e : isWithK lo hi (.int i) = false := by
          show (decide (lo ≤ i) && decide (i ≤ hi)) = _
          rw [decide_eq_false h1, Bool.false_and]
        rw [e] at q
        exact iteF q
    · have e1 : isIntK k = false := by
        cases k <;> first | rfl | exact absurd ⟨_, rfl⟩ hk
      have e2 : isWithK lo hi k = false := by
        cases k <;> first | rfl | exact absurd ⟨_, rfl⟩ hk
      rw [e1]
      rw [e2] at q
      exact iteT q
/-! ### is_list -/
def isLstK : Kd → Bool
  | .lst _ => true
  | .tup _ => true
  | _ => false
def spIsList : Sp := fun vs H Q _ => ∃ (v : V) (k : Kd), vs = [v] ∧ KdAt H v k ∧ ∀ H', Same H H' → Q (.bl (isLstK k)) H'
theorem scIsList : FnScope ["value"] ["value"] (defScope sIsList) := ⟨rfl, rfl, rfl, by decide +kernel, rfl, by decide +kernel, by decide +kernel⟩
theorem ok_isList {f : Addr} {fd : FuncData} (F : Fun K "is_list" "is_list" sIsList f fd) (N : Nm mg) : FnOk P w K mg base CX0 1 f fd ["value"] spIsList := by
  refine F.ok scIsList (fun vs H Q E h => ?_) (fun cdv A outer s H vs Q E hr h => ?_)
  · obtain ⟨v, k, rfl, _⟩ := h
    rfl
  · obtain ⟨v, k, rfl, hv, q⟩ := h
    refine ⟨_, pss_one (ps_ret (pe_callB call_isiT (by rfl) N.isi PyProof.Rows.boot_isinstance (pa_cons (pv 0) (pa_cons (pe_tup (pa_cons (pe_bltn (v := .ty "list") (by rfl) N.tlist PyProof.Rows.boot_list rfl)
      (pa_cons (pe_bltn (v := .ty "tuple") (by rfl) N.ttup PyProof.Rows.boot_tuple rfl) pa_nil))) pa_nil)))), ?_⟩
    refine ⟨_, rfl, by show 2 ≤ sizeLine; decide, fun p hp => ?_⟩
    have e : PySem.W.kitAny K (.type k.name) [.type "list", .type "tuple"] = some (isLstK k) := by
      refine kitAny_cons (kit_ty (kb_list k)) (fun e1 => kitAny_cons (kit_ty (kb_tup k)) (fun e2 => ?_) fun e2 => ?_) fun e1 => ?_
      · cases k <;> first | rfl | exact Bool.noConfusion e1 | exact Bool.noConfusion e2
      · cases k <;> first | rfl | exact Bool.noConfusion e1 | exact Bool.noConfusion e2
      · cases k <;> first | rfl | exact Bool.noConfusion e1
    exact ⟨v, p, _, _, _, _, rfl, upd_same, .cons (.ty _) (.cons (.ty _) .nil), (hv.same (same_upd hp)).ty, e, q _ (same_upd hp)⟩
end
end K52
/-! common, lowest, raised, tower, choose_in. -/
namespace K52
open PySem L2
/-- the number a over u, u above 0, at v -/
def NumAt (H : Hp) (v : V) (a u : Nat) : Prop := (u = 1 ∧ v = .int a) ∨ (u ≠ 1 ∧ ∃ p, v = .ref p ∧ H p = some (.tup [.int a, .int u]))
theorem NumAt.same {H H' : Hp} {v : V} {a u : Nat} (s : Same H H') (h : NumAt H v a u) : NumAt H' v a u := by
  rcases h with ⟨e, h⟩ | ⟨e, p, h, hp⟩
  · exact .inl ⟨e, h⟩
  · exact .inr ⟨e, p, h, s _ _ hp⟩
/-- .. in its one form -/
def NumOf (H : Hp) (v : V) (a u : Nat) : Prop := NumAt H v (a / Nat.gcd a u) (u / Nat.gcd a u)
theorem abs_nat (i : Int) : (if i < 0 then -i else i) = ((i.natAbs : Nat) : Int) := by split <;> omega
section
variable {P : Program} {w : World} {K : PySem.W.Frag} {mg : Str → Option Value} {base : Heap}
/-! ### common -/
def spCommon : Sp := fun vs H Q _ => ∃ i j : Int, vs = [.int i, .int j] ∧ Q (.int ((Nat.gcd i.natAbs j.natAbs : Nat) : Int)) H
theorem scCommon : FnScope ["one", "other"] ["one", "other"] (defScope sCommon) := ⟨rfl, rfl, rfl, by decide +kernel, rfl, by decide +kernel, by decide +kernel⟩
theorem ok_common {f : Addr} {fd : FuncData} (F : Fun K "common" "common" sCommon f fd) (N : Nm mg) : FnOk P w K mg base CX0 1 f fd ["one", "other"] spCommon := by
  refine F.ok scCommon (fun vs H Q E h => ?_) (fun cdv A outer s H vs Q E hr h => ?_)
  · obtain ⟨i, j, rfl, _⟩ := h
    rfl
  · obtain ⟨i, j, rfl, q⟩ := h
    refine ⟨_, pss_cons (ps_par (i := 0) (j := 1) rfl scCommon.nd rfl rfl (by decide) rfl rfl (pa_cons (pe_callB call_abs (by rfl) N.abs PyProof.Rows.boot_abs (pa_cons (pv 0) pa_nil)) (pa_cons (pe_callB call_abs (by rfl) N.abs PyProof.Rows.boot_abs (pa_cons (pv 1) pa_nil)) pa_nil)) (by rfl))
      (pss_cons (ps_while PassesOwn.never (pt_cmpR op_gt (pv 1) pe_int (nomark _)) (pss_one (ps_par (i := 0) (j := 1) rfl scCommon.nd rfl rfl (by decide) rfl rfl (pa_cons (pv 1) (pa_cons (pe_op op_mod (pv 0) (pv 1)) pa_nil)) (by rfl))))
      (pss_one (ps_ret (pv 0)))), ?_⟩
    refine ⟨_, rfl, i, rfl, _, rfl, j, rfl, _, _, rfl, ?_⟩
    rw [abs_nat, abs_nat]
    refine ⟨fun m σ H' => ∃ a b : Nat, σ = [some (.int (a : Int)), some (.int (b : Int))] ∧ H' = H ∧ m = b ∧ Nat.gcd a b = Nat.gcd i.natAbs j.natAbs, ⟨_, _, _, rfl, rfl, rfl, rfl⟩, ?_⟩
    rintro m σ H' ⟨a, b, rfl, rfl, rfl, hg⟩
    refine ⟨_, rfl, _, _, rfl, rfl, _, rfl, ite2 (fun c => ?_) (fun c => ?_)⟩
    · have hb : 0 < m := by
        have z := of_decide_eq_true c
        omega
      refine ⟨fun σ' H'' => ∃ a b : Nat, σ' = [some (.int (a : Int)), some (.int (b : Int))] ∧ H'' = H' ∧ b < m ∧ Nat.gcd a b = Nat.gcd i.natAbs j.natAbs, fun σ' H'' ⟨x, y, e1, e2, e3, e4⟩ => ⟨y, e3, x, y, e1, e2, rfl, e4⟩, ?_⟩
      refine ⟨_, rfl, _, rfl, _, rfl, _, _, rfl, rfl, (by omega), _, _, rfl, ?_⟩
      refine ⟨m, a % m, ?_, rfl, Nat.mod_lt _ hb, ?_⟩
      · rw [Int.natCast_emod]
        rfl
      · rw [← hg, Nat.gcd_comm a m, Nat.gcd_rec m a, Nat.gcd_comm]
    · have hb : m = 0 := by
        have z : ¬ ((0 : Int) < (m : Int)) := fun z => c (decide_eq_true z)
        omega
      subst hb
      rw [Nat.gcd_zero_right] at hg
      rw [← hg] at q
      exact ⟨_, rfl, q⟩
/-! ### lowest -/
def spLowest : Sp := fun vs H Q _ => ∃ a u : Nat, vs = [.int (a : Int), .int (u : Int)] ∧ 0 < u ∧ u < 2 ^ 9000 ∧ ∀ (H' : Hp) (v : V), Same H H' → NumOf H' v a u → Q v H'
theorem scLowest : FnScope ["above", "under", "part"] ["above", "under"] (defScope sLowest) := ⟨rfl, rfl, rfl, by decide +kernel, rfl, by decide +kernel, by decide +kernel⟩
theorem ok_lowest {f : Addr} {fd : FuncData} (F : Fun K "lowest" "lowest" sLowest f fd) (D : Dn P w K mg base CX0 1 "common" ["one", "other"] spCommon) : FnOk P w K mg base CX0 2 f fd ["above", "under"] spLowest := by
  refine F.ok scLowest (fun vs H Q E h => ?_) (fun cdv A outer s H vs Q E hr h => ?_)
  · obtain ⟨a, u, rfl, _⟩ := h
    rfl
  · obtain ⟨a, u, rfl, hu, hz, q⟩ := h
    have hg : 0 < Nat.gcd a u := Nat.gcd_pos_of_pos_right _ hu
    have hg2 : Nat.gcd a u < 2 ^ 9000 := Nat.lt_of_le_of_lt (Nat.gcd_le_right _ hu) hz
    refine ⟨_, pss_cons (ps_set (i := 2) scLowest.nd rfl (.inl rfl) (pe_d D hr (by rfl) (pa_cons (pv 0) (pa_cons (pv 1) pa_nil))))
      (pss_cons (ps_set (i := 2) scLowest.nd rfl (.inl rfl) (pe_ifExp (pt_cmpR op_lt (pv 1) pe_int (nomark _)) (pe_un un_neg (pv 2)) (pv 2)))
      (pss_cons (ps_par (i := 0) (j := 1) rfl scLowest.nd rfl rfl (by decide) rfl rfl (pa_cons (pe_op op_fdivW (pv 0) (pv 2)) (pa_cons (pe_op op_fdivW (pv 1) (pv 2)) pa_nil)) (by rfl))
      (pss_one (ps_ret (pe_ifExp (pt_cmpR op_eq (pv 1) pe_int (nomark _)) (pv 0) (pe_tup (pa_cons (pv 0) (pa_cons (pv 1) pa_nil)))))))), ?_⟩
    have ng : ¬ ((u : Int) < 0) := by omega
    have cd : CDivW (u : Int) ((Nat.gcd a u : Nat) : Int) := wide_div (b := 9000) (by omega) (by omega) (by decide) (by decide)
    have cd2 : CDivW (a : Int) ((Nat.gcd a u : Nat) : Int) := ⟨cd.1, cd.2⟩
    refine ⟨_, rfl, _, rfl, _, _, rfl, ?_⟩
    refine ⟨_, rfl, _, _, rfl, rfl, _, rfl, ?_⟩
    rw [decide_eq_false ng]
    refine iteF ⟨_, rfl, ?_⟩
    refine ⟨_, rfl, _, rfl, _, _, rfl, rfl, cd2, _, rfl, _, rfl, _, _, rfl, rfl, cd, _, _, rfl, ?_⟩
    refine ⟨_, rfl, rfl, _, rfl, ?_⟩
    have e1 : ((a : Int) / ((Nat.gcd a u : Nat) : Int)) = ((a / Nat.gcd a u : Nat) : Int) := (Int.natCast_ediv _ _).symm
    have e2 : ((u : Int) / ((Nat.gcd a u : Nat) : Int)) = ((u / Nat.gcd a u : Nat) : Int) := (Int.natCast_ediv _ _).symm
    refine ite2 (fun c => ?_) (fun c => ?_)
    · have z : (u : Int) / ((Nat.gcd a u : Nat) : Int) = 1 := V.int.inj (of_decide_eq_true c)
      rw [e2] at z
      refine ⟨_, rfl, ?_⟩
      show Q (V.int ((a : Int) / ((Nat.gcd a u : Nat) : Int))) H
      rw [e1]
      exact q _ _ (Same.refl _) (.inl ⟨by omega, rfl⟩)
    · have z : ¬ (u : Int) / ((Nat.gcd a u : Nat) : Int) = 1 := fun z => c (decide_eq_true (congrArg V.int z))
      rw [e2] at z
      refine ⟨_, rfl, _, rfl, by show 2 ≤ sizeLine; decide, fun p hp => ?_⟩
      show Q (V.ref p) (upd H p (.tup [.int ((a : Int) / ((Nat.gcd a u : Nat) : Int)), .int ((u : Int) / ((Nat.gcd a u : Nat) : Int))]))
      rw [e1, e2]
      exact q _ _ (same_upd hp) (.inr ⟨by omega, p, rfl, upd_same⟩)
/-! ### raised -/
theorem rai_step (f b l : Nat) : (if l % 2 = 1 then f * b else f) * (b * b) ^ (l / 2) = f * b ^ l := by
  have e : l = 2 * (l / 2) + l % 2 := by omega
  have h2 : (b * b) ^ (l / 2) = b ^ (2 * (l / 2)) := by rw [Nat.pow_mul, Nat.pow_two]
  rw [h2]
  split
  · rename_i h
    have e3 : b * b ^ (2 * (l / 2)) = b ^ l := by
      rw [Nat.mul_comm, ← Nat.pow_succ]
      exact congrArg (b ^ ·) (show 2 * (l / 2) + 1 = l by omega)
    rw [Nat.mul_assoc, e3]
  · rename_i h
    rw [show 2 * (l / 2) = l by omega]
def spRaised : Sp := fun vs H Q _ => ∃ n m : Nat, vs = [.int (n : Int), .int (m : Int)] ∧ (n = 0 → m = 0) ∧ n ^ m < 2 ^ 800 ∧ Q (.int ((n ^ m : Nat) : Int)) H
theorem scRaised : FnScope ["integer", "many", "found", "base", "left"] ["integer", "many"] (defScope sRaised) := ⟨rfl, rfl, rfl, by decide +kernel, rfl, by decide +kernel, by decide +kernel⟩
theorem ok_raised {f : Addr} {fd : FuncData} (F : Fun K "raised" "raised" sRaised f fd) : FnOk P w K mg base CX0 1 f fd ["integer", "many"] spRaised := by
  refine F.ok scRaised (fun vs H Q E h => ?_) (fun cdv A outer s H vs Q E hr h => ?_)
  · obtain ⟨n, m, rfl, _⟩ := h
    rfl
  · obtain ⟨n, m, rfl, h0, hz, q⟩ := h
    refine ⟨_, pss_cons (ps_par3 (i := 2) (j := 3) (l := 4) rfl scRaised.nd rfl rfl rfl (by decide) (by decide) (by decide) rfl rfl rfl (pa_cons pe_int (pa_cons (pv 0) (pa_cons (pv 1) pa_nil))) (by rfl))
      (pss_cons (ps_while PassesOwn.never (pt_cmpR op_gt (pv 4) pe_int (nomark _))
        (pss_cons (ps_if (pt_cmpR op_eq (pe_op op_and (pv 4) pe_int) pe_int (nomark _)) (pss_one (ps_set (i := 2) scRaised.nd rfl (.inl rfl) (pe_op op_mulW (pv 2) (pv 3)))) pss_nil)
        (pss_one (ps_par (i := 3) (j := 4) rfl scRaised.nd rfl rfl (by decide) rfl rfl (pa_cons (pe_op op_mulW (pv 3) (pv 3)) (pa_cons (pe_op op_shr (pv 4) pe_int) pa_nil)) (by rfl)))))
      (pss_one (ps_ret (pv 2)))), ?_⟩
    refine ⟨_, rfl, _, rfl, _, _, _, rfl, ?_⟩
    refine ⟨fun k σ H' => ∃ f b l : Nat, σ = [some (.int (n : Int)), some (.int (m : Int)), some (.int (f : Int)), some (.int (b : Int)), some (.int (l : Int))] ∧ H' = H ∧ k = l ∧ f * b ^ l = n ^ m ∧ (0 < l → 0 < f ∧ 0 < b), ⟨_, 1, n, m, rfl, rfl, rfl, by rw [Nat.one_mul], fun hl => ⟨by omega, by
        cases n with
        | zero => have := h0 rfl; omega
        | succ n => omega⟩⟩, ?_⟩
    rintro k σ H' ⟨f, b, l, rfl, rfl, rfl, hi, hp⟩
    refine ⟨_, rfl, _, _, rfl, rfl, _, rfl, ite2 (fun c => ?_) (fun c => ?_)⟩
    · have hl : 0 < k := by
        have z := of_decide_eq_true c
        omega
      obtain ⟨hf, hb⟩ := hp hl
      have hbp : b ≤ b ^ k := Nat.le_self_pow (by omega) b
      have hfz : f < 2 ^ 800 := Nat.lt_of_le_of_lt (by rw [← hi]; exact Nat.le_mul_of_pos_right _ (Nat.pow_pos hb)) hz
      have hbz : b < 2 ^ 800 := Nat.lt_of_le_of_lt (by rw [← hi]; exact Nat.le_trans hbp (Nat.le_mul_of_pos_left _ hf)) hz
      refine ⟨fun σ' H'' => ∃ f b l : Nat, σ' = [some (.int (n : Int)), some (.int (m : Int)), some (.int (f : Int)), some (.int (b : Int)), some (.int (l : Int))] ∧ H'' = H' ∧ l < k ∧ f * b ^ l = n ^ m ∧ (0 < l → 0 < f ∧ 0 < b),
        fun σ' H'' ⟨x, y, z, e1, e2, e3, e4, e5⟩ => ⟨z, e3, x, y, z, e1, e2, rfl, e4, e5⟩, ?_⟩
      refine ⟨_, rfl, _, _, rfl, rfl, rfl, _, rfl, ?_⟩
      have tail : ∀ (g : Nat), (if k % 2 = 1 then f * b else f) = g → 0 < g → ∃ f' b' l' : Nat, [some (V.int (n : Int)), some (.int (m : Int)), some (.int (g : Int)), some (.int ((b : Int) * (b : Int))), some (.int ((k : Int) / 2 ^ (1 : Int).toNat))] = [some (V.int (n : Int)), some (.int (m : Int)), some (.int (f' : Int)), some (.int (b' : Int)), some (.int (l' : Int))] ∧ H' = H' ∧ l' < k ∧ f' * b' ^ l' = n ^ m ∧ (0 < l' → 0 < f' ∧ 0 < b') := fun g hg hg0 => by
        refine ⟨g, b * b, k / 2, ?_, rfl, by omega, ?_, fun _ => ⟨hg0, Nat.mul_pos hb hb⟩⟩
        · rw [Int.natCast_mul, Int.natCast_ediv]
          rfl
        · rw [← hg, rai_step, hi]
      have eb : Builtin.bitAnd (k : Int) 1 = ((k % 2 : Nat) : Int) := by
        rw [PyProof.Rows.bitAnd_m1]
        omega
      refine ite2 (fun c2 => ?_) (fun c2 => ?_)
      · have z : Builtin.bitAnd (k : Int) 1 = 1 := V.int.inj (of_decide_eq_true c2)
        rw [eb] at z
        refine ⟨_, rfl, _, rfl, _, _, rfl, rfl, wide_mul (a := 800) (b := 800) (by omega) (by omega) (by decide) (by decide) (by decide), ?_⟩
        refine ⟨_, rfl, _, rfl, _, _, rfl, rfl, wide_mul (a := 800) (b := 800) (by omega) (by omega) (by decide) (by decide) (by decide), _, rfl, _, _, rfl, rfl, (by show (0 : Int) ≤ 1; decide), _, _, rfl, ?_⟩
        have t := tail (f * b) (if_pos (by omega)) (Nat.mul_pos hf hb)
        rw [Int.natCast_mul] at t
        exact t
      · have z : ¬ Builtin.bitAnd (k : Int) 1 = 1 := fun z => c2 (decide_eq_true (congrArg V.int z))
        rw [eb] at z
        refine ⟨_, rfl, _, rfl, _, _, rfl, rfl, wide_mul (a := 800) (b := 800) (by omega) (by omega) (by decide) (by decide) (by decide), _, rfl, _, _, rfl, rfl, (by show (0 : Int) ≤ 1; decide), _, _, rfl, ?_⟩
        exact tail f (if_neg (by omega)) hf
    · have hl : k = 0 := by
        have z : ¬ ((0 : Int) < (k : Int)) := fun z => c (decide_eq_true z)
        omega
      subst hl
      rw [Nat.pow_zero, Nat.mul_one] at hi
      rw [← hi] at q
      exact ⟨_, rfl, q⟩
/-! ### tower -/
def spTower : Sp := fun vs H Q _ => ∃ n : Nat, vs = [.int (n : Int)] ∧ n ≤ 100 ∧ Q (.int ((tw n : Nat) : Int)) H
theorem scTower : FnScope ["number"] ["number"] (defScope sTower) := ⟨rfl, rfl, rfl, by decide +kernel, rfl, by decide +kernel, by decide +kernel⟩
theorem ok_tower {f : Addr} {fd : FuncData} (F : Fun K "tower" "tower" sTower f fd) (D : Dn P w K mg base CX0 1 "raised" ["integer", "many"] spRaised) : FnOk P w K mg base CX0 2 f fd ["number"] spTower := by
  refine F.ok scTower (fun vs H Q E h => ?_) (fun cdv A outer s H vs Q E hr h => ?_)
  · obtain ⟨n, rfl, _⟩ := h
    rfl
  · obtain ⟨n, rfl, hn, q⟩ := h
    refine ⟨_, pss_one (ps_ret (pe_d D hr (by rfl) (pa_cons (pv 0) (pa_cons (pv 0) pa_nil)))), ?_⟩
    have hz : n ^ n < 2 ^ 800 := Nat.lt_trans (tw_lt hn) (by decide +kernel)
    exact ⟨_, rfl, _, rfl, n, n, rfl, id, hz, q⟩
/-! ### choose_in -/
def spChoose : Sp := fun vs H Q _ => ∃ n k : Nat, vs = [.int (n : Int), .int (k : Int)] ∧ k ≤ n ∧ n ≤ 1000 ∧ k ≤ 8 ∧ Q (.int ((ch n k : Nat) : Int)) H
theorem scChoose : FnScope ["many", "some", "found", "turn"] ["many", "some"] (defScope sChoose) := ⟨rfl, rfl, rfl, by decide +kernel, rfl, by decide +kernel, by decide +kernel⟩
theorem ok_choose {f : Addr} {fd : FuncData} (F : Fun K "choose_in" "choose_in" sChoose f fd) (N : Nm mg) : FnOk P w K mg base CX0 1 f fd ["many", "some"] spChoose := by
  refine F.ok scChoose (fun vs H Q E h => ?_) (fun cdv A outer s H vs Q E hr h => ?_)
  · obtain ⟨n, k, rfl, _⟩ := h
    rfl
  · obtain ⟨n, k, rfl, hk, hn, h8, q⟩ := h
    refine ⟨_, pss_cons (ps_set (i := 2) scChoose.nd rfl (.inl rfl) pe_int)
      (pss_cons (ps_for PassesOwn.never rfl (pi_range1 (by rfl) N.rng (pa_cons (pv 1) pa_nil)) (pg_name (i := 3) scChoose.nd rfl (.inl rfl))
        (pss_one (ps_set (i := 2) scChoose.nd rfl (.inl rfl) (pe_op op_fdivN (pe_op op_mul (pv 2) (pe_op op_sub (pv 0) (pv 3))) (pe_op op_add (pv 3) pe_int)))))
      (pss_one (ps_ret (pv 2)))), ?_⟩
    refine ⟨_, rfl, k, rfl, by omega, by omega, ?_⟩
    refine for_range (lo := 0) (n := (k : Int).toNat) (fun i σ H' => ∃ y, σ = [some (.int (n : Int)), some (.int (k : Int)), some (.int ((ch n i : Nat) : Int)), y] ∧ H' = H) ⟨_, by rw [ch_zero]; rfl, rfl⟩ ?_ ?_
    · rintro i σ H' hi ⟨y, rfl, rfl⟩
      have hik : i < k := by omega
      refine ⟨_, rfl, _, rfl, _, rfl, _, _, rfl, rfl, _, _, rfl, rfl, .inr ⟨by omega, by omega⟩, _, rfl, _, _, rfl, rfl, _, _, rfl, rfl, ⟨by omega, by omega⟩, ?_⟩
      refine ⟨some (.int (0 + (i : Int))), ?_, rfl⟩
      have e : ((ch n i : Nat) : Int) * ((n : Int) - (0 + (i : Int))) = ((ch n i * (n - i) : Nat) : Int) := by
        rw [Int.natCast_mul, Int.natCast_sub (by omega), Int.zero_add]
      have e2 : (0 + (i : Int)) + 1 = ((i + 1 : Nat) : Int) := by omega
      show [some (V.int (n : Int)), some (.int (k : Int)), some (.int ((((ch n i : Nat) : Int) * ((n : Int) - (0 + (i : Int)))).fdiv ((0 + (i : Int)) + 1))), some (.int (0 + (i : Int)))] = _
      rw [e, e2, Int.fdiv_eq_ediv_of_nonneg _ (by omega), ← Int.natCast_ediv, ch_next]
    · rintro σ H' ⟨y, rfl, rfl⟩
      rw [Int.toNat_natCast]
      exact ⟨_, rfl, q⟩
end
end K52
/-! joined, rest_by. -/
namespace K52
open PySem L2
/-! ### lists of numbers from 0 on -/
def nV (l : List Nat) : List V := l.map fun n : Nat => V.int (n : Int)
theorem nV_len (l : List Nat) : (nV l).length = l.length := List.length_map ..
theorem nV_app (l r : List Nat) : nV (l ++ r) = nV l ++ nV r := List.map_append
theorem nV_at {l : List Nat} {i n : Nat} (h : l[i]? = some n) : (nV l)[i]? = some (V.int (n : Int)) := by
  unfold nV
  rw [List.getElem?_map, h]
  rfl
theorem nV_at' {l : List Nat} {i : Nat} {v : V} (h : (nV l)[i]? = some v) : ∃ n, l[i]? = some n ∧ v = V.int (n : Int) := by
  unfold nV at h
  rw [List.getElem?_map] at h
  cases e : l[i]? with
  | none => rw [e] at h; cases h
  | some n => rw [e] at h; exact ⟨n, rfl, (Option.some.inj h).symm⟩
def rowL (f : Nat → Nat) (n : Nat) : List Nat := (List.range n).map f
theorem rowL_len (f : Nat → Nat) (n : Nat) : (rowL f n).length = n := by unfold rowL; rw [List.length_map, List.length_range]
theorem rowL_at (f : Nat → Nat) {n i : Nat} (h : i < n) : (rowL f n)[i]? = some (f i) := by
  unfold rowL
  rw [List.getElem?_map, List.getElem?_range h]
  rfl
theorem rowL_more (f : Nat → Nat) (n : Nat) : nV (rowL f n) ++ [V.int ((f n : Nat) : Int)] = nV (rowL f (n + 1)) := by
  unfold rowL
  rw [List.range_succ, List.map_append, nV_app]
  rfl
theorem rowL_congr {f g : Nat → Nat} {n : Nat} (h : ∀ i, i < n → f i = g i) : rowL f n = rowL g n := by
  unfold rowL
  exact List.map_congr_left fun i hi => h i (List.mem_range.mp hi)
theorem rowL_delta : ∀ d, V.int 1 :: List.replicate d (V.int 0) = nV (rowL delta (d + 1))
  | 0 => rfl
  | d + 1 => by
    rw [← rowL_more, ← rowL_delta d, List.replicate_succ']
    rfl
theorem take_snoc {α : Type} {l : List α} {i : Nat} {x : α} (h : l[i]? = some x) : l.take (i + 1) = l.take i ++ [x] := by
  rw [List.take_add_one, h]
  rfl
theorem sum_take_le : ∀ (l : List Nat) (i : Nat), (l.take i).sum ≤ l.sum
  | [], i => by rw [List.take_nil]; exact Nat.le_refl _
  | x :: r, 0 => Nat.zero_le _
  | x :: r, i + 1 => by
    have := sum_take_le r i
    show x + (r.take i).sum ≤ x + r.sum
    omega
theorem mem_le_sum : ∀ {l : List Nat} {i x : Nat}, l[i]? = some x → x ≤ l.sum
  | [], _, _, h => by simp at h
  | a :: r, 0, x, h => by
    have e : a = x := Option.some.inj h
    show x ≤ a + r.sum
    omega
  | a :: r, i + 1, x, h => by
    have ih := mem_le_sum (l := r) (i := i) (x := x) h
    show x ≤ a + r.sum
    omega
theorem int_sum : ∀ l : List Nat, (l.map fun n : Nat => (n : Int)).sum = ((l.sum : Nat) : Int)
  | [] => rfl
  | x :: r => by
    rw [List.map_cons, List.sum_cons, List.sum_cons, int_sum r, Int.natCast_add]
theorem nV_ints (l : List Nat) : (l.map fun n : Nat => (n : Int)).map V.int = nV l := by
  unfold nV
  rw [List.map_map]
  rfl
theorem rep_flat {α : Type} (x : α) : ∀ n : Nat, (List.replicate n [x]).flatten = List.replicate n x
  | 0 => rfl
  | n + 1 => by
    rw [List.replicate_succ, List.flatten_cons, rep_flat x n]
    rfl
theorem sameN {H H' : Hp} {D : Addr} {o : HO} (s : Same H H') (n : H D = none) : Same H (upd H' D o) := fun b u e => by
  rw [upd_ne (ne_of_none e n)]
  exact s b u e
/-! ### sum of a tuple -/
def rSumT (K : PySem.W.Frag) : List V → Hp → VK → Prop := fun vs H Q => ∃ (a : Addr) (ns : List Int), vs = [V.ref a] ∧ SqT K H a (ns.map V.int) ∧ Q (.int ns.sum) H
theorem cr_sumT {X : Cx} (hc : X.calm = true) : CallR X (.builtin "sum") (rSumT X.K) := by
  intro pins s σ H vs us Q I r h
  obtain ⟨a, ns, rfl, hs, q⟩ := h
  obtain ⟨its, rv, ht, _⟩ := I.tuple hs
  rw [Vals.ref1 r]
  obtain ⟨xs, hx⟩ := rv.ints.allInts.items
  have hn : numsOf its.toArray.toList = ns := rv.ints.numsOf
  have ht' : s.heap.IsTuple a its.toArray := ht
  rw [hx] at ht' hn
  rw [nums_intItems] at hn
  refine PySem.W.ktm_sumG (I.ok.hd hc) ht' fun h' tk t' hk => ?_
  rw [preSum_eq, List.take_of_length_le (by simp), hn]
  exact ⟨.int _, H, I.kept hk, ⟨_, rfl⟩, q⟩
section
variable {P : Program} {w : World} {K : PySem.W.Frag} {mg : Str → Option Value} {base : Heap}
/-! ### joined -/
def spJoined (K : PySem.W.Frag) : Sp := fun vs H Q _ => ∃ (a b : Addr) (f t : Nat → Nat) (n m d : Nat), vs = [.ref a, .ref b, .int (d : Int)] ∧ SqL K H a (nV (rowL f n)) ∧ SqL K H b (nV (rowL t m)) ∧ d < n ∧ d < m ∧ d ≤ 250 ∧
  (∀ i, i ≤ d → f i < 2 ^ 1001) ∧ (∀ i, i ≤ d → t i < 2 ^ 1001) ∧ ∀ H', Same H H' → Q (.int ((conv f t d : Nat) : Int)) H'
theorem scJoined : FnScope ["row", "towers", "days", "found", "lots", "many"] ["row", "towers", "days"] (defScope sJoined) := ⟨rfl, rfl, rfl, by decide +kernel, rfl, by decide +kernel, by decide +kernel⟩
theorem ok_joined {f : Addr} {fd : FuncData} (F : Fun K "joined" "joined" sJoined f fd) (N : Nm mg) : FnOk P w K mg base CX0 1 f fd ["row", "towers", "days"] (spJoined K) := by
  refine F.ok scJoined (fun vs H Q E h => ?_) (fun cdv A outer s H vs Q E hr h => ?_)
  · obtain ⟨_, _, _, _, _, _, _, rfl, _⟩ := h
    rfl
  · obtain ⟨a, b, f, t, n, m, d, rfl, ha, hb, hn, hm, h250, hf, ht, q⟩ := h
    refine ⟨_, pss_cons (ps_asg (pe_tup (pa_cons pe_int (pa_cons pe_int pa_nil))) (pg_tup rfl (pgs_cons (pg_name (i := 3) scJoined.nd rfl (.inl rfl)) (pgs_cons (pg_name (i := 4) scJoined.nd rfl (.inl rfl)) pgs_nil))))
      (pss_cons (ps_for PassesOwn.never rfl (pi_range1 (by rfl) N.rng (pa_cons (pe_op op_add (pv 2) pe_int) pa_nil)) (pg_name (i := 5) scJoined.nd rfl (.inl rfl))
        (pss_cons (ps_set (i := 3) scJoined.nd rfl (.inl rfl) (pe_op op_add (pv 3) (pe_op op_mulW (pe_op op_mulW (pv 4) (pe_ix ix_list (pv 0) (pe_op op_sub (pv 2) (pv 5)) (fun _ _ => rfl))) (pe_ix ix_list (pv 1) (pv 5) (fun _ _ => rfl)))))
        (pss_one (ps_set (i := 4) scJoined.nd rfl (.inl rfl) (pe_op op_fdivN (pe_op op_mul (pv 4) (pe_op op_sub (pv 2) (pv 5))) (pe_op op_add (pv 5) pe_int))))))
      (pss_one (ps_ret (pv 3)))), ?_⟩
    refine ⟨by show 2 ≤ sizeLine; decide, fun p hp => ⟨p, _, rfl, SqT.of upd_same, rfl, _, _, rfl, _, _, rfl, rfl, ?_⟩⟩
    have sm : Same H (upd H p (.tup [.int 0, .int 1])) := same_upd hp
    refine ⟨_, rfl, _, _, rfl, rfl, _, rfl, by omega, by omega, ?_⟩
    refine for_range (lo := 0) (n := ((d : Int) + 1).toNat) (fun i σ H' => ∃ y, σ = [some (.ref a), some (.ref b), some (.int (d : Int)), some (.int ((sumTo i (fun m => ch d m * f (d - m) * t m) : Nat) : Int)), some (.int ((ch d i : Nat) : Int)), y] ∧ H' = upd H p (.tup [.int 0, .int 1])) ⟨_, by rw [ch_zero]; rfl, rfl⟩ ?_ ?_
    · rintro i σ H' hi ⟨y, rfl, rfl⟩
      have ha := sm.seq ha
      have hb := sm.seq hb
      have hid : i ≤ d := by omega
      have e1 : (d : Int) - (0 + (i : Int)) = ((d - i : Nat) : Int) := by omega
      have e2 : (0 + (i : Int)) + 1 = ((i + 1 : Nat) : Int) := by omega
      have hch : ch d i < 2 ^ 251 := Nat.lt_of_le_of_lt (ch_le d i) (Nat.lt_of_le_of_lt (Nat.pow_le_pow_right (by decide) h250) (by decide +kernel))
      have g1 : atI (nV (rowL f n)) ((d : Int) - (0 + (i : Int))) = some (V.int ((f (d - i) : Nat) : Int)) := at_of e1 (nV_at (rowL_at f (by omega)))
      have g2 : atI (nV (rowL t m)) (0 + (i : Int)) = some (V.int ((t i : Nat) : Int)) := at_of (Int.zero_add _) (nV_at (rowL_at t (by omega)))
      have w1 : CMulW ((ch d i : Nat) : Int) ((f (d - i) : Nat) : Int) := wide_mul (a := 251) (b := 1001) (by omega) (by have := hf (d - i) (by omega); omega) (by decide) (by decide) (by decide)
      have w2 : CMulW (((ch d i : Nat) : Int) * ((f (d - i) : Nat) : Int)) ((t i : Nat) : Int) := wide_mul (a := 251 + 1001) (b := 1001) (wide_lt (by omega) (by have := hf (d - i) (by omega); omega)) (by have := ht i hid; omega) (by decide) (by decide) (by decide)
      refine ⟨_, rfl, _, rfl, _, rfl, _, rfl, _, rfl, _, _, rfl, rfl, _, _, _, _, rfl, rfl, ha, g1, _, _, rfl, rfl, w1, _, rfl, _, rfl, _, _, _, _, rfl, rfl, hb, g2, _, _, rfl, rfl, w2, _, _, rfl, rfl, ?_⟩
      refine ⟨_, rfl, _, rfl, _, rfl, _, _, rfl, rfl, _, _, rfl, rfl, .inr ⟨by omega, by omega⟩, _, rfl, _, _, rfl, rfl, _, _, rfl, rfl, ⟨by omega, by omega⟩, ?_⟩
      refine ⟨some (.int (0 + (i : Int))), ?_, rfl⟩
      show [some (V.ref a), some (.ref b), some (.int (d : Int)), some (.int (((sumTo i (fun m => ch d m * f (d - m) * t m) : Nat) : Int) + ((ch d i : Nat) : Int) * ((f (d - i) : Nat) : Int) * ((t i : Nat) : Int))),
        some (.int ((((ch d i : Nat) : Int) * ((d : Int) - (0 + (i : Int)))).fdiv ((0 + (i : Int)) + 1))), some (.int (0 + (i : Int)))] = _
      rw [e1, e2, Int.fdiv_eq_ediv_of_nonneg _ (by omega), ← Int.natCast_mul, ← Int.natCast_mul, ← Int.natCast_mul, ← Int.natCast_ediv, ← Int.natCast_add, ch_next]
      rfl
    · rintro σ H' ⟨y, rfl, rfl⟩
      have e : ((d : Int) + 1).toNat = d + 1 := by omega
      refine ⟨_, rfl, ?_⟩
      rw [e]
      exact q _ sm
/-! ### rest_by -/
def spRestBy (K : PySem.W.Frag) : Sp := fun vs H Q _ => ∃ (a : Addr) (c : List Nat) (d : Nat), vs = [.ref a, .int (d : Int)] ∧ SqT K H a (nV c) ∧ c.length ≤ 5 ∧ c.sum + d ≤ 100 ∧ ∀ (H' : Hp) (v : V), Same H H' → NumOf H' v (S d c) (tw (c.sum + d)) → Q v H'
theorem scRestBy : FnScope ["counts", "days", "row", "count", "towers", "many", "each"] ["counts", "days"] (defScope sRestBy) := ⟨rfl, rfl, rfl, by decide +kernel, rfl, by decide +kernel, by decide +kernel⟩
theorem ok_restBy {f : Addr} {fd : FuncData} (F : Fun K "rest_by" "rest_by" sRestBy f fd) (N : Nm mg) (DT : Dn P w K mg base CX0 2 "tower" ["number"] spTower) (DJ : Dn P w K mg base CX0 1 "joined" ["row", "towers", "days"] (spJoined K)) (DL : Dn P w K mg base CX0 2 "lowest" ["above", "under"] spLowest) :
    FnOk P w K mg base CX0 3 f fd ["counts", "days"] (spRestBy K) := by
  refine F.ok scRestBy (fun vs H Q E h => ?_) (fun cdv A outer s H vs Q E hr h => ?_)
  · obtain ⟨_, _, _, rfl, _⟩ := h
    rfl
  · obtain ⟨a, c, d, rfl, ha, hl, hs, q⟩ := h
    refine ⟨_, pss_cons (ps_set (i := 2) scRestBy.nd rfl (.inr rfl) (pe_op op_cat (pe_lst (pa_cons pe_int pa_nil)) (pe_op op_rep (pe_lst (pa_cons pe_int pa_nil)) (pv 1))))
      (pss_cons (ps_for PassesOwn.never rfl (pi_tup (pv 0)) (pg_name (i := 3) scRestBy.nd rfl (.inr rfl))
        (pss_cons (ps_set (i := 4) scRestBy.nd rfl (.inr rfl) (pe_lc (own := [("many", 5)]) (g := gName 5) (tt := tYes) rfl scRestBy.nd (pi_range1 (by rfl) N.rng (pa_cons (pe_op op_add (pv 1) pe_int) pa_nil))
            (blkOk_by (own := [("many", 5)]) (N := ["counts", "days", "row", "count", "towers", "many", "each"]) (sc := defScope sRestBy) (by decide +kernel)) (fun _ _ _ _ _ => pg_name (i := 5) scRestBy.nd rfl (.inl rfl)) (fun _ _ _ _ _ => pts_nil)
            (fun _ _ _ _ _ => pe_d DT hr (by rfl) (pa_cons (pe_op op_add (pv 3) (pv 5)) pa_nil))))
        (pss_one (ps_set (i := 2) scRestBy.nd rfl (.inr rfl) (pe_lc (own := [("each", 6)]) (g := gName 6) (tt := tYes) rfl scRestBy.nd (pi_range1 (by rfl) N.rng (pa_cons (pe_op op_add (pv 1) pe_int) pa_nil))
            (blkOk_by (own := [("each", 6)]) (N := ["counts", "days", "row", "count", "towers", "many", "each"]) (sc := defScope sRestBy) (by decide +kernel)) (fun _ _ _ _ _ => pg_name (i := 6) scRestBy.nd rfl (.inl rfl)) (fun _ _ _ _ _ => pts_nil)
            (fun _ _ _ _ _ => pe_d DJ hr (by rfl) (pa_cons (pv 2) (pa_cons (pv 4) (pa_cons (pv 6) pa_nil)))))))))
      (pss_one (ps_ret (pe_d DL hr (by rfl) (pa_cons (pe_ix ix_list (pv 2) (pv 1) (fun _ _ => rfl)) (pa_cons (pe_d DT hr (by rfl) (pa_cons (pe_op op_add (pe_callB (cr_sumT rfl) (by rfl) N.sum PyProof.Rows.boot_sum (pa_cons (pv 0) pa_nil)) (pv 1)) pa_nil)) pa_nil)))))), ?_⟩
    -- row = [1] + [0] * days
    refine ⟨by show 1 ≤ sizeLine; decide, fun p1 n1 => ⟨by show 1 ≤ sizeLine; decide, fun p2 n2 => ⟨_, rfl, p2, (d : Int), [V.int 0], rfl, rfl, upd_same, by omega, by omega, ?_, fun p3 n3 => ?_⟩⟩⟩
    · rw [List.length_singleton, Int.toNat_natCast, sizeLine_eq]
      omega
    have s1 := same_upd (o := .lst [V.int 1]) n1
    have s2 := same_upd (o := .lst [V.int 0]) n2
    have s3 := same_upd (o := .lst (List.replicate (d : Int).toNat [V.int 0]).flatten) n3
    refine ⟨p1, p3, _, _, rfl, rfl, s3 _ _ (s2 _ _ upd_same), upd_same, ?_, fun p4 n4 => ?_⟩
    · rw [Int.toNat_natCast, rep_flat, List.length_replicate, sizeLine_eq]
      show 1 + d ≤ _
      omega
    have s4 := same_upd (o := .lst ([V.int 1] ++ (List.replicate (d : Int).toNat [V.int 0]).flatten)) n4
    have s0 := ((s1.trans s2).trans s3).trans s4
    -- for count in counts
    refine ⟨_, rfl, a, rfl, ⟨_, sameT s0 ha⟩, for_tup (K := K) (a := a) (xs := nV c) (fun i σ H' => ∃ (r : Addr) (y3 y4 : Option V), σ = [some (.ref a), some (.int (d : Int)), some (.ref r), y3, y4, none, none] ∧ Same H H' ∧
      H' r = some (.lst (nV (rowL (rows (c.take i)) (d + 1))))) ⟨p4, none, none, rfl, s0, ?_⟩ (fun i σ H' _ ⟨_, _, _, _, sm, _⟩ => sameT sm ha) ?_ ?_⟩
    · rw [upd_same, Int.toNat_natCast, rep_flat]
      show some (HO.lst (V.int 1 :: List.replicate d (V.int 0))) = _
      rw [rowL_delta]
      rfl
    · rintro i v σ H1 hi ⟨r, y3, y4, rfl, sm, hr1⟩
      obtain ⟨x, hx, rfl⟩ := nV_at' hi
      have hxs := mem_le_sum hx
      have hi5 : (c.take i).length ≤ 8 := by
        rw [List.length_take]
        omega
      have his := sum_take_le c i
      -- towers
      refine ⟨_, rfl, _, _, rfl, rfl, _, rfl, by omega, by omega, fun D hD => ?_⟩
      refine lc_range (lo := 0) (n := ((d : Int) + 1).toNat) (fun j H2 => Same H1 H2 ∧ H2 D = some (.lst (nV (rowL (fun m => tw (x + m)) j)))) ⟨same_upd hD, upd_same⟩ ?_ ?_
      · rintro j H2 hj ⟨sm2, hD2⟩
        refine ⟨rfl, _, rfl, _, rfl, _, _, rfl, rfl, x + j, congrArg (fun z => [V.int z]) (by omega), by omega, _, hD2, ?_, sameN sm2 hD, ?_⟩
        · rw [nV_len, rowL_len, sizeLine_eq]
          omega
        · rw [upd_same, ← rowL_more]
      · rintro H2 ⟨sm2, hD2⟩
        have e1 : ((d : Int) + 1).toNat = d + 1 := by omega
        rw [e1] at hD2
        -- row
        refine ⟨_, rfl, _, _, rfl, rfl, _, rfl, by omega, by omega, fun D2 hDD => ?_⟩
        refine lc_range (lo := 0) (n := ((d : Int) + 1).toNat) (fun j H3 => Same H2 H3 ∧ H3 D2 = some (.lst (nV (rowL (conv (rows (c.take i)) (fun m => tw (x + m))) j)))) ⟨same_upd hDD, upd_same⟩ ?_ ?_
        · rintro j H3 hj ⟨sm3, hD3⟩
          refine ⟨rfl, .ref r, rfl, .ref D, rfl, _, rfl, r, D, rows (c.take i), (fun m => tw (x + m)), d + 1, d + 1, j, congrArg (fun z => [V.ref r, V.ref D, V.int z]) (by omega), SqL.of (sm3 _ _ (sm2 _ _ hr1)), SqL.of (sm3 _ _ hD2), by omega, by omega, by omega,
            fun k hk => rows_lt hi5 (by omega), fun k hk => Nat.lt_trans (tw_lt (by omega)) (by decide +kernel), fun H4 sm4 => ?_⟩
          refine ⟨_, sm4 _ _ hD3, ?_, sameN (sm3.trans sm4) hDD, ?_⟩
          · rw [nV_len, rowL_len, sizeLine_eq]
            omega
          · rw [upd_same, ← rowL_more]
        · rintro H3 ⟨sm3, hD3⟩
          rw [e1] at hD3
          refine ⟨D2, _, _, rfl, (sm.trans sm2).trans sm3, ?_⟩
          rw [take_snoc hx, rows_snoc]
          exact hD3
    · rintro σ H1 ⟨r, y3, y4, rfl, sm, hr1⟩
      rw [nV_len, List.take_length] at hr1
      refine ⟨.ref r, rfl, _, rfl, r, _, (d : Int), _, rfl, rfl, SqL.of hr1, atI_nat (nV_at (rowL_at (rows c) (Nat.lt_succ_self d))), ?_⟩
      refine ⟨.ref a, rfl, a, c.map fun n : Nat => (n : Int), rfl, by rw [nV_ints]; exact sameT sm ha, _, rfl, _, _, rfl, rfl, c.sum + d, congrArg (fun z => [V.int z]) (by rw [int_sum]; omega), hs, ?_⟩
      refine ⟨rows c d, tw (c.sum + d), rfl, tw_pos _, Nat.lt_trans (tw_lt hs) (by decide +kernel), fun H2 v sm2 hn => ?_⟩
      rw [rows_S] at hn
      exact q H2 v (sm.trans sm2) hn
end
end K52
/-! The errors; need_integer, need_counted. -/
namespace K52
open PySem L2
/-! ### the base's __init__, called by the base's name -/
/-- what is written of the class at D: D.__init__ is ValueError's -/
structure PInit (K : PySem.W.Frag) (mg : Str → Option Value) (D : Addr) : Prop where
  g : mg "PriceError" = some (.ref D)
  rd : PySem.W.readsIn K D (.type "type") = true
  ga : PySem.W.specialIn K (.ref D) "__getattribute__" = some (some (.builtin "type.__getattribute__"))
  fi : PySem.W.findCls K (.ref D) (.type "type") "__init__" = some (.val (.builtin "ValueError.__init__"))
section
variable {X : Cx} {e : Expr} {es : List Expr} {ta : TA} {D : Addr} {p1 p2 pos : Pos}
theorem pe_pinit {pl : Sem Bool} (T : PInit X.K X.mg D) (hg : Gl X "PriceError") (ha : PA X (e :: es) ta)
    (hc : eval (.Call (.Attribute (.Name "PriceError" p1) "__init__" p2) (e :: es) [] pos) X.env = (do
      let v ← eval (.Name "PriceError" p1) X.env
      standAt p2.atName
      let (g, f) ← holding [v] (getMethod v "__init__" pl)
      callWith pos g f (backTo pos (starEach (e :: es) X.env)) (backToKw pos (keywordEach [] X.env))) := by rfl)
    (he : starEach (e :: es) X.env = (false, eval e X.env) :: starEach es X.env := by rfl) (hpl : (backTo pos (starEach es X.env)).any (·.1) = false := by rfl) :
    PE X (.Call (.Attribute (.Name "PriceError" p1) "__init__" p2) (e :: es) [] pos) (tVeI X.K ta) := by
  refine ⟨fun pins s σ H Q I h => ?_⟩
  refine PySem.W.methodCall_KW (ld_glob I hg T.g ?_) hc
  refine PySem.W.method_cls I.kIn T.ga (PySem.W.cls_value I.kIn T.rd T.fi (by decide +kernel) ?_)
  show wpAny _ _ (callWith pos (Value.builtin "ValueError.__init__") [] (backTo pos (starEach (e :: es) X.env)) []) _ _ _
  refine PyProof.Rows.callWith_method1 (thn (ha.run pos pins _ σ H _ (I.tok _) h) fun us s1 ⟨vs, H1, I1, r1, a, C, ws, ev, hl, TC, ea, q⟩ => ?_) he hpl
  subst ev
  cases r1 with
  | @cons _ u0 _ ur ra rr =>
    obtain rfl : u0 = Value.ref a := ra
    exact oinit_ok TC I1 ea (by rw [← Paired.length rr, sizeLine_eq]; omega) fun s' J => ⟨.non, H1, J, rfl, q⟩
end
/-! ### the two classes -/
/-- an error class of the text at C, its __init__ at fI -/
structure ErrC (K : PySem.W.Frag) (mg : Str → Option Value) (x : Str) (C fI : Addr) : Prop where
  g : mg x = some (.ref C)
  o : OexC K C
  iC : PySem.W.findIn K (.ref C) "__init__" = some (some (.ref fI))
  tI : PySem.W.typeIn K (.ref fI) = some (.type "function")
/-- what BadNumber("..") is wished to be: the error's own dict d holds its part -/
def RB (E : XK) (C : Addr) (x : Str) (H : Hp) : Prop := ∀ (d : Addr) (H' : Hp), Same H H' → H' d = some (.xd [(("part" : Str), .str x)]) → E (.ref C) (some d) H'
def RT (E : XK) (C : Addr) (x : Str) (n : Int) (H : Hp) : Prop := ∀ (d : Addr) (H' : Hp), Same H H' → H' d = some (.xd [(("most" : Str), .int n), (("what" : Str), .str x)]) → E (.ref C) (some d) H'
theorem same_err {H : Hp} {a d : Addr} {o o' u u' : HO} (ha : H a = none) (hd : upd H a o d = none) : Same H (upd (del (upd (upd (upd H a o) d u) a o') a) d u') := fun b v e => by
  have hba : b ≠ a := ne_of_none e ha
  have hbd : b ≠ d := ne_of_none (show upd H a o b = some v by rw [upd_ne hba]; exact e) hd
  rw [upd_ne hbd, del_ne hba, upd_ne hba, upd_ne hbd, upd_ne hba]
  exact e
theorem RB.same {E : XK} {C : Addr} {x : Str} {H H' : Hp} (s : Same H H') (r : RB E C x H) : RB E C x H' := fun d H2 s2 e => r d H2 (s.trans s2) e
theorem RT.same {E : XK} {C : Addr} {x : Str} {n : Int} {H H' : Hp} (s : Same H H') (r : RT E C x n H) : RT E C x n H' := fun d H2 s2 e => r d H2 (s.trans s2) e
section
variable {P : Program} {w : World} {K : PySem.W.Frag} {mg : Str → Option Value} {base : Heap} {D : Addr}
def spInitB (K : PySem.W.Frag) : Sp := fun vs H Q _ => ∃ (a C : Addr) (v : V), vs = [.ref a, v] ∧ OexC K C ∧ PySem.W.findIn K (.ref C) "part" = some none ∧ H a = some (exo a C none) ∧
  ∀ d, H d = none → d ≠ a → Q .non (upd (upd H d (exd d [(("part" : Str), v)])) a (exo a C (some d)))
theorem scInitB : FnScope ["self", "part"] ["self", "part"] (defScope sInitB) := ⟨rfl, rfl, rfl, by decide +kernel, rfl, by decide +kernel, by decide +kernel⟩
theorem ok_initB {f : Addr} {fd : FuncData} (F : Fun K "__init__" "BadNumber.__init__" sInitB f fd) (T : PInit K mg D) : FnOk P w K mg base CX0 1 f fd ["self", "part"] (spInitB K) := by
  refine F.ok scInitB (fun vs H Q E h => ?_) (fun cdv A outer s H vs Q E hr h => ?_)
  · obtain ⟨_, _, _, rfl, _⟩ := h
    rfl
  · obtain ⟨a, C, v, rfl, o, hn, ha, q⟩ := h
    refine ⟨_, pss_cons (ps_expr (pe_pinit T (by rfl) (pa_cons (pv 0) (pa_cons pe_str pa_nil)))) (pss_one (ps_ost (pv 0) (pv 1))), ?_⟩
    refine ⟨_, rfl, a, C, [.str "BadNumber"], rfl, by decide, o, ha, ?_⟩
    exact ⟨v, rfl, .ref a, rfl, a, C, rfl, o, hn, .inl ⟨ha, fun d n ne => q d n ne⟩⟩
def spInitT (K : PySem.W.Frag) : Sp := fun vs H Q _ => ∃ (a C : Addr) (v y : V), vs = [.ref a, v, y] ∧ OexC K C ∧ PySem.W.findIn K (.ref C) "what" = some none ∧ PySem.W.findIn K (.ref C) "most" = some none ∧ H a = some (exo a C none) ∧
  ∀ d, H d = none → d ≠ a → Q .non (upd (upd (upd H d (exd d [(("what" : Str), v)])) a (exo a C (some d))) d (exd d [(("most" : Str), y), (("what" : Str), v)]))
theorem scInitT : FnScope ["self", "what", "most"] ["self", "what", "most"] (defScope sInitT) := ⟨rfl, rfl, rfl, by decide +kernel, rfl, by decide +kernel, by decide +kernel⟩
theorem ok_initT {f : Addr} {fd : FuncData} (F : Fun K "__init__" "TooMany.__init__" sInitT f fd) (T : PInit K mg D) : FnOk P w K mg base CX0 1 f fd ["self", "what", "most"] (spInitT K) := by
  refine F.ok scInitT (fun vs H Q E h => ?_) (fun cdv A outer s H vs Q E hr h => ?_)
  · obtain ⟨_, _, _, _, rfl, _⟩ := h
    rfl
  · obtain ⟨a, C, v, y, rfl, o, hn, hn2, ha, q⟩ := h
    refine ⟨_, pss_cons (ps_expr (pe_pinit T (by rfl) (pa_cons (pv 0) (pa_cons pe_str pa_nil)))) (pss_cons (ps_ost (pv 0) (pv 1)) (pss_one (ps_ost (pv 0) (pv 2)))), ?_⟩
    refine ⟨_, rfl, a, C, [.str "TooMany"], rfl, by decide, o, ha, ?_⟩
    refine ⟨v, rfl, .ref a, rfl, a, C, rfl, o, hn, .inl ⟨ha, fun d n ne => ?_⟩⟩
    exact ⟨y, rfl, .ref a, rfl, a, C, rfl, o, hn2, .inr ⟨d, _, upd_same, by rw [upd_ne ne, upd_same], by show 1 ≤ 900; decide, q d n ne⟩⟩
/-- BadNumber: its class at C -/
structure ErrB (P : Program) (w : World) (K : PySem.W.Frag) (mg : Str → Option Value) (base : Heap) (C : Addr) : Prop where
  ex : ∃ (fI : Addr) (fd : FuncData), ErrC K mg "BadNumber" C fI ∧ FnOk P w K mg base CX0 1 fI fd ["self", "part"] (spInitB K) ∧ Binds K fd ["self", "part"] [] ∧ PySem.W.findIn K (.ref C) "part" = some none
structure ErrT (P : Program) (w : World) (K : PySem.W.Frag) (mg : Str → Option Value) (base : Heap) (C : Addr) : Prop where
  ex : ∃ (fI : Addr) (fd : FuncData), ErrC K mg "TooMany" C fI ∧ FnOk P w K mg base CX0 1 fI fd ["self", "what", "most"] (spInitT K) ∧ Binds K fd ["self", "what", "most"] [] ∧ PySem.W.findIn K (.ref C) "what" = some none ∧ PySem.W.findIn K (.ref C) "most" = some none
end
section
variable {X : Cx} {C : Addr} {k : Nat} {e e' : Expr} {te te' : TE} {p p2 pos pos2 : Pos} {E : XK}
/-- raise BadNumber(e) -/
def tRB (K : PySem.W.Frag) (C : Addr) (E : XK) (te : TE) : TS := fun _ σ H => tMkO C (spInitB K) [] (tCons te tNil) σ H fun cls d H' => E cls d H'
theorem ps_rB (hc : X.calm = true) (B : ErrB X.prog X.w X.K X.mg X.base C) (hr : Room k X.A) (hk : 2 ≤ k) (tk : Takes X (fun cls d _ H => E cls d H)) (hg : Gl X "BadNumber") (he : PE X e te)
    (hs : starEach (e :: []) X.env = (false, eval e X.env) :: starEach [] X.env := by rfl) (hpl : (backTo pos (starEach [] X.env)).any (·.1) = false := by rfl) : PS X (.Raise (some (.Call (.Name "BadNumber" p) [e] [] pos)) none pos2) (tRB X.K C E te) := by
  obtain ⟨fI, fd, T, F, hb, hn⟩ := B.ex
  exact ps_raise hc tk (pmk_oex T.o T.iC T.tI F (hr.mono hk) hb .nil pass0 hg T.g (pa_cons he pa_nil hs) (by decide) hs hpl)
/-- .. where e is the text x -/
theorem rB_go {P : Program} {w : World} {K : PySem.W.Frag} {mg : Str → Option Value} {base : Heap} {x : Str} {H1 : Hp} (B : ErrB P w K mg base C) (r : RB E C x H1) : ([V.str x] : List V).length ≤ 1000 ∧ ∀ a, H1 a = none → spInitB K (.ref a :: ([V.str x] ++ [])) (upd H1 a (exo a C none))
      (fun z H2 => z = .non ∧ ∃ (d : Addr) (fs : List (Str × V)), H2 a = some (exo a C (some d)) ∧ H2 d = some (exd d fs) ∧ H1 d = none ∧ E (.ref C) (some d) (upd (del H2 a) d (.xd fs))) (fun _ _ _ => False) := by
  obtain ⟨fI, fd, T, F, hb, hn⟩ := B.ex
  refine ⟨by show 1 ≤ 1000; decide, fun a ha => ⟨a, C, .str x, rfl, T.o, hn, upd_same, fun d hd nd => ⟨rfl, d, _, upd_same, by rw [upd_ne nd, upd_same], ?_, ?_⟩⟩⟩
  · rw [upd_ne nd] at hd
    exact hd
  · exact r d _ (same_err ha hd) upd_same
/-- raise TooMany(e, e') -/
def tRT (K : PySem.W.Frag) (C : Addr) (E : XK) (te te' : TE) : TS := fun _ σ H => tMkO C (spInitT K) [] (tCons te (tCons te' tNil)) σ H fun cls d H' => E cls d H'
theorem ps_rT (hc : X.calm = true) (B : ErrT X.prog X.w X.K X.mg X.base C) (hr : Room k X.A) (hk : 2 ≤ k) (tk : Takes X (fun cls d _ H => E cls d H)) (hg : Gl X "TooMany") (he : PE X e te) (he' : PE X e' te')
    (hs : starEach (e :: [e']) X.env = (false, eval e X.env) :: starEach [e'] X.env := by rfl) (hs' : starEach (e' :: []) X.env = (false, eval e' X.env) :: starEach [] X.env := by rfl) (hpl : (backTo pos (starEach [e'] X.env)).any (·.1) = false := by rfl) :
    PS X (.Raise (some (.Call (.Name "TooMany" p) [e, e'] [] pos)) none pos2) (tRT X.K C E te te') := by
  obtain ⟨fI, fd, T, F, hb, hn, hn2⟩ := B.ex
  exact ps_raise hc tk (pmk_oex T.o T.iC T.tI F (hr.mono hk) hb .nil pass0 hg T.g (pa_cons he (pa_cons he' pa_nil hs') hs) (by decide) hs hpl)
theorem same_err2 {H : Hp} {a d : Addr} {o o' u u2 u' : HO} (ha : H a = none) (hd : upd H a o d = none) : Same H (upd (del (upd (upd (upd (upd H a o) d u) a o') d u2) a) d u') := fun b v e => by
  have hba : b ≠ a := ne_of_none e ha
  have hbd : b ≠ d := ne_of_none (show upd H a o b = some v by rw [upd_ne hba]; exact e) hd
  rw [upd_ne hbd, del_ne hba, upd_ne hbd, upd_ne hba, upd_ne hbd, upd_ne hba]
  exact e
theorem rT_go {P : Program} {w : World} {K : PySem.W.Frag} {mg : Str → Option Value} {base : Heap} {x : Str} {n : Int} {H1 : Hp} (B : ErrT P w K mg base C) (r : RT E C x n H1) : ([V.str x, V.int n] : List V).length ≤ 1000 ∧ ∀ a, H1 a = none → spInitT K (.ref a :: ([V.str x, V.int n] ++ [])) (upd H1 a (exo a C none))
      (fun z H2 => z = .non ∧ ∃ (d : Addr) (fs : List (Str × V)), H2 a = some (exo a C (some d)) ∧ H2 d = some (exd d fs) ∧ H1 d = none ∧ E (.ref C) (some d) (upd (del H2 a) d (.xd fs))) (fun _ _ _ => False) := by
  obtain ⟨fI, fd, T, F, hb, hn, hn2⟩ := B.ex
  refine ⟨by show 2 ≤ 1000; decide, fun a ha => ⟨a, C, .str x, .int n, rfl, T.o, hn, hn2, upd_same, fun d hd nd => ⟨rfl, d, _, ?_, upd_same, ?_, ?_⟩⟩⟩
  · rw [upd_ne (Ne.symm nd), upd_same]
  · rw [upd_ne nd] at hd
    exact hd
  · exact r d _ (same_err2 ha hd) upd_same
end
section
variable {P : Program} {w : World} {K : PySem.W.Frag} {mg : Str → Option Value} {base : Heap} {CB CT : Addr}
/-! ### need_integer -/
def spNeedInt (CB : Addr) : Sp := fun vs H Q E => ∃ (v : V) (k : Kd) (x : Str) (lo hi : Int), vs = [v, .str x, .int lo, .int hi] ∧ KdAt H v k ∧ (isWithK lo hi k = true → Q .non H) ∧ (isWithK lo hi k = false → RB E CB x H)
theorem scNeedInt : FnScope ["value", "part", "least", "most"] ["value", "part", "least", "most"] (defScope sNeedInt) := ⟨rfl, rfl, rfl, by decide +kernel, rfl, by decide +kernel, by decide +kernel⟩
theorem ok_needInt {f : Addr} {fd : FuncData} (F : Fun K "need_integer" "need_integer" sNeedInt f fd) (D : Dn P w K mg base CX0 2 "is_within" ["value", "least", "most"] spWithin) (B : ErrB P w K mg base CB) :
    FnOk P w K mg base (L2.CX P w) 3 f fd ["value", "part", "least", "most"] (spNeedInt CB) := by
  refine F.okX scNeedInt (fun vs H Q E h => ?_) (fun cdv A outer s H vs Q E hr h => ?_)
  · obtain ⟨_, _, _, _, _, rfl, _⟩ := h
    rfl
  · obtain ⟨v, k, x, lo, hi, rfl, hv, q1, q2⟩ := h
    refine ⟨_, pss_one (ps_if (pt_not (pt_val (pe_d D hr (by rfl) (pa_cons (pv 0) (pa_cons (pv 2) (pa_cons (pv 3) pa_nil)))))) (pss_one (ps_rB (E := E) rfl B hr (by decide) (takes_of rfl rfl rfl rfl) (by rfl) (pv 1))) pss_nil), ?_⟩
    refine ⟨v, rfl, _, rfl, _, rfl, v, k, lo, hi, rfl, hv, _, rfl, ?_⟩
    cases e : isWithK lo hi k with
    | true => exact iteF (q1 e)
    | false => exact iteT ⟨_, rfl, rB_go B (q2 e)⟩
/-! ### need_counted -/
def cOk (n : Nat) (ks : Nat → Kd) : Bool := (decide (1 ≤ n) && decide (n ≤ 5)) && (List.range n).all fun i => isWithK 0 1000 (ks i)
def spNeedC (CB : Addr) : Sp := fun vs H Q E => ∃ (v : V) (k : Kd), vs = [v] ∧ KdAt H v k ∧
  ((isLstK k = false ∧ RB E CB "counts" H) ∨ ∃ (xs : List V) (ks : Nat → Kd), (k = .lst xs ∨ k = .tup xs) ∧ xs.length ≤ 1000 ∧ (∀ (i : Nat) (x : V), xs[i]? = some x → KdAt H x (ks i)) ∧
    (cOk xs.length ks = false → RB E CB "counts" H) ∧ (cOk xs.length ks = true → ∀ (H' : Hp) (p : Addr), Same H H' → H' p = some (.tup xs) → Q (.ref p) H'))
theorem scNeedC : FnScope ["value", "each"] ["value"] (defScope sNeedC) := ⟨rfl, rfl, rfl, by decide +kernel, rfl, by decide +kernel, by decide +kernel⟩
theorem within_len (n : Nat) : isWithK 1 5 (.int ((n : Nat) : Int)) = (decide (1 ≤ n) && decide (n ≤ 5)) := by
  show (decide ((1 : Int) ≤ (n : Int)) && decide ((n : Int) ≤ 5)) = _
  congr 1
  · exact decide_eq_decide.mpr (by omega)
  · exact decide_eq_decide.mpr (by omega)
theorem ok_needC {f : Addr} {fd : FuncData} (F : Fun K "need_counted" "need_counted" sNeedC f fd) (N : Nm mg) (DL : Dn P w K mg base CX0 1 "is_list" ["value"] spIsList) (DW : Dn P w K mg base CX0 2 "is_within" ["value", "least", "most"] spWithin) (B : ErrB P w K mg base CB) :
    FnOk P w K mg base (L2.CX P w) 3 f fd ["value"] (spNeedC CB) := by
  obtain ⟨tg, hgo⟩ := N.goods
  obtain ⟨tc, hco⟩ := N.count
  refine F.okX scNeedC (fun vs H Q E h => ?_) (fun cdv A outer s H vs Q E hr h => ?_)
  · obtain ⟨_, _, rfl, _⟩ := h
    rfl
  · obtain ⟨v, k, rfl, hv, ⟨hk, q⟩ | ⟨xs, ks, rfl | rfl, hz, hk, q1, q2⟩⟩ := h
    · -- no list
      refine ⟨_, pss_cons (ps_if (PW.pt (pw_or (pt_not (pt_val (pe_d DL hr (by rfl) (pa_cons (pv 0) pa_nil)))) (pw_or1 (pt_not (pt_val (pe_d DW hr (by rfl) (pa_cons (pe_callB call_len_seq (by rfl) N.len PySem.boot_len (pa_cons (pv 0) pa_nil)) (pa_cons pe_int (pa_cons (pe_glob (v := .int 5) (by rfl) hgo ⟨_, rfl⟩) pa_nil)))))))))
        (pss_one (ps_rB (E := E) rfl B hr (by decide) (takes_of rfl rfl rfl rfl) (by rfl) pe_str)) pss_nil)
      (pss_cons (ps_if (pt_not (pt_val (pe_callB (cr_all rfl) (by rfl) N.all PyProof.Rows.boot_all (pa_cons (pe_lc (own := [("each", 1)]) (g := gName 1) (tt := tYes) rfl scNeedC.nd (pi_list (pv 0)) (blkOk_by (own := [("each", 1)]) (N := ["value", "each"]) (sc := defScope sNeedC) (by decide +kernel))
            (fun _ _ _ _ _ => pg_name (i := 1) scNeedC.nd rfl (.inl rfl)) (fun _ _ _ _ _ => pts_nil) (fun _ _ _ _ _ => pe_d DW hr (by rfl) (pa_cons (pv 1) (pa_cons pe_int (pa_cons (pe_glob (v := .int 1000) (by rfl) hco ⟨_, rfl⟩) pa_nil))))) pa_nil))))
        (pss_one (ps_rB (E := E) rfl B hr (by decide) (takes_of rfl rfl rfl rfl) (by rfl) pe_str)) pss_nil)
      (pss_one (ps_ret (pe_callTy call_tuple_of (by rfl) N.ttup PyProof.Rows.boot_tuple (pa_cons (pv 0) pa_nil))))), ?_⟩
      refine ⟨_, rfl, _, _, rfl, hv, fun H1 s1 => ⟨_, rfl, ?_⟩⟩
      rw [hk]
      exact iteT (iteT (rB_go B (q.same s1)))
    · obtain ⟨a, rfl, ha⟩ := id hv
      refine ⟨_, pss_cons (ps_if (PW.pt (pw_or (pt_not (pt_val (pe_d DL hr (by rfl) (pa_cons (pv 0) pa_nil)))) (pw_or1 (pt_not (pt_val (pe_d DW hr (by rfl) (pa_cons (pe_callB call_len_seq (by rfl) N.len PySem.boot_len (pa_cons (pv 0) pa_nil)) (pa_cons pe_int (pa_cons (pe_glob (v := .int 5) (by rfl) hgo ⟨_, rfl⟩) pa_nil)))))))))
        (pss_one (ps_rB (E := E) rfl B hr (by decide) (takes_of rfl rfl rfl rfl) (by rfl) pe_str)) pss_nil)
      (pss_cons (ps_if (pt_not (pt_val (pe_callB (cr_all rfl) (by rfl) N.all PyProof.Rows.boot_all (pa_cons (pe_lc (own := [("each", 1)]) (g := gName 1) (tt := tYes) rfl scNeedC.nd (pi_list (pv 0)) (blkOk_by (own := [("each", 1)]) (N := ["value", "each"]) (sc := defScope sNeedC) (by decide +kernel))
            (fun _ _ _ _ _ => pg_name (i := 1) scNeedC.nd rfl (.inl rfl)) (fun _ _ _ _ _ => pts_nil) (fun _ _ _ _ _ => pe_d DW hr (by rfl) (pa_cons (pv 1) (pa_cons pe_int (pa_cons (pe_glob (v := .int 1000) (by rfl) hco ⟨_, rfl⟩) pa_nil))))) pa_nil))))
        (pss_one (ps_rB (E := E) rfl B hr (by decide) (takes_of rfl rfl rfl rfl) (by rfl) pe_str)) pss_nil)
      (pss_one (ps_ret (pe_callTy call_tuple_of (by rfl) N.ttup PyProof.Rows.boot_tuple (pa_cons (pv 0) pa_nil))))), ?_⟩
      refine ⟨_, rfl, _, _, rfl, hv, fun H1 s1 => ⟨_, rfl, ?_⟩⟩
      refine iteF ?_
      refine ⟨_, rfl, a, xs, rfl, .inl (SqL.of (s1 _ _ ha)), ?_⟩
      refine ⟨_, .int (xs.length : Int), 1, 5, rfl, rfl, _, rfl, ?_⟩
      cases e1 : isWithK 1 5 (.int (xs.length : Int)) with
      | false => exact iteT (rB_go B ((q1 (by unfold cOk; rw [← within_len, e1, Bool.false_and])).same s1))
      | true =>
        refine iteF ⟨_, rfl, a, rfl, ⟨_, SqL.of (s1 _ _ ha)⟩, fun D hD => ?_⟩
        refine lc_list (K := K) (a := a) (xs := xs) (fun i H2 => Same H1 H2 ∧ H2 D = some (.lst (((List.range i).map fun j => isWithK 0 1000 (ks j)).map V.bl))) ⟨same_upd hD, upd_same⟩ (fun i H2 _ ⟨sm, _⟩ => SqL.of (sm _ _ (s1 _ _ ha))) ?_ ?_
        · rintro i x H2 hx ⟨sm, hD2⟩
          refine ⟨rfl, x, rfl, x, ks i, 0, 1000, rfl, (hk i x hx).same (s1.trans sm), _, hD2, ?_, sameN sm hD, ?_⟩
          · have := (List.getElem?_eq_some_iff.mp hx).1
            rw [List.length_map, List.length_map, List.length_range, sizeLine_eq]
            omega
          · rw [upd_same, List.range_succ, List.map_append, List.map_append]
            rfl
        · rintro H2 ⟨sm, hD2⟩
          refine ⟨D, _, rfl, SqL.of hD2, _, rfl, ?_⟩
          rw [List.all_map]
          have e3 : (List.range xs.length).all (id ∘ fun j => isWithK 0 1000 (ks j)) = (List.range xs.length).all fun j => isWithK 0 1000 (ks j) := rfl
          rw [e3]
          cases e2 : (List.range xs.length).all fun j => isWithK 0 1000 (ks j) with
          | false => exact iteT (rB_go B ((q1 (by unfold cOk; rw [e2, Bool.and_false])).same (s1.trans sm)))
          | true =>
            have hc2 : cOk xs.length ks = true := by unfold cOk; rw [← within_len, e1, e2]; rfl
            exact iteF ⟨_, rfl, a, xs, rfl, .inl ⟨SqL.of ((s1.trans sm) _ _ ha), fun l hl => q2 hc2 _ _ (sameN (s1.trans sm) (show H l = none from (s1.trans sm).free hl)) upd_same⟩⟩
    · obtain ⟨a, rfl, ha⟩ := id hv
      refine ⟨_, pss_cons (ps_if (PW.pt (pw_or (pt_not (pt_val (pe_d DL hr (by rfl) (pa_cons (pv 0) pa_nil)))) (pw_or1 (pt_not (pt_val (pe_d DW hr (by rfl) (pa_cons (pe_callB call_len_seq (by rfl) N.len PySem.boot_len (pa_cons (pv 0) pa_nil)) (pa_cons pe_int (pa_cons (pe_glob (v := .int 5) (by rfl) hgo ⟨_, rfl⟩) pa_nil)))))))))
        (pss_one (ps_rB (E := E) rfl B hr (by decide) (takes_of rfl rfl rfl rfl) (by rfl) pe_str)) pss_nil)
      (pss_cons (ps_if (pt_not (pt_val (pe_callB (cr_all rfl) (by rfl) N.all PyProof.Rows.boot_all (pa_cons (pe_lc (own := [("each", 1)]) (g := gName 1) (tt := tYes) rfl scNeedC.nd (pi_tup (pv 0)) (blkOk_by (own := [("each", 1)]) (N := ["value", "each"]) (sc := defScope sNeedC) (by decide +kernel))
            (fun _ _ _ _ _ => pg_name (i := 1) scNeedC.nd rfl (.inl rfl)) (fun _ _ _ _ _ => pts_nil) (fun _ _ _ _ _ => pe_d DW hr (by rfl) (pa_cons (pv 1) (pa_cons pe_int (pa_cons (pe_glob (v := .int 1000) (by rfl) hco ⟨_, rfl⟩) pa_nil))))) pa_nil))))
        (pss_one (ps_rB (E := E) rfl B hr (by decide) (takes_of rfl rfl rfl rfl) (by rfl) pe_str)) pss_nil)
      (pss_one (ps_ret (pe_callTy call_tuple_of (by rfl) N.ttup PyProof.Rows.boot_tuple (pa_cons (pv 0) pa_nil))))), ?_⟩
      refine ⟨_, rfl, _, _, rfl, hv, fun H1 s1 => ⟨_, rfl, ?_⟩⟩
      refine iteF ?_
      refine ⟨_, rfl, a, xs, rfl, .inr (SqT.of (s1 _ _ ha)), ?_⟩
      refine ⟨_, .int (xs.length : Int), 1, 5, rfl, rfl, _, rfl, ?_⟩
      cases e1 : isWithK 1 5 (.int (xs.length : Int)) with
      | false => exact iteT (rB_go B ((q1 (by unfold cOk; rw [← within_len, e1, Bool.false_and])).same s1))
      | true =>
        refine iteF ⟨_, rfl, a, rfl, ⟨_, SqT.of (s1 _ _ ha)⟩, fun D hD => ?_⟩
        refine lc_tup (K := K) (a := a) (xs := xs) (fun i H2 => Same H1 H2 ∧ H2 D = some (.lst (((List.range i).map fun j => isWithK 0 1000 (ks j)).map V.bl))) ⟨same_upd hD, upd_same⟩ (fun i H2 _ ⟨sm, _⟩ => SqT.of (sm _ _ (s1 _ _ ha))) ?_ ?_
        · rintro i x H2 hx ⟨sm, hD2⟩
          refine ⟨rfl, x, rfl, x, ks i, 0, 1000, rfl, (hk i x hx).same (s1.trans sm), _, hD2, ?_, sameN sm hD, ?_⟩
          · have := (List.getElem?_eq_some_iff.mp hx).1
            rw [List.length_map, List.length_map, List.length_range, sizeLine_eq]
            omega
          · rw [upd_same, List.range_succ, List.map_append, List.map_append]
            rfl
        · rintro H2 ⟨sm, hD2⟩
          refine ⟨D, _, rfl, SqL.of hD2, _, rfl, ?_⟩
          rw [List.all_map]
          have e3 : (List.range xs.length).all (id ∘ fun j => isWithK 0 1000 (ks j)) = (List.range xs.length).all fun j => isWithK 0 1000 (ks j) := rfl
          rw [e3]
          cases e2 : (List.range xs.length).all fun j => isWithK 0 1000 (ks j) with
          | false => exact iteT (rB_go B ((q1 (by unfold cOk; rw [e2, Bool.and_false])).same (s1.trans sm)))
          | true =>
            have hc2 : cOk xs.length ks = true := by unfold cOk; rw [← within_len, e1, e2]; rfl
            exact iteF ⟨_, rfl, a, xs, rfl, .inr ⟨SqT.of ((s1.trans sm) _ _ ha), q2 hc2 _ _ (s1.trans sm) ((s1.trans sm) _ _ ha)⟩⟩
end
end K52
/-! prices_to, all_best, best_price, best_rest. -/
namespace K52
open PySem L2
/-- the integers that the prices are over days to the days -/
def pf (d : Nat) : Nat → Nat
  | 0 => tw d
  | 1 => conv tw tw d
  | i + 2 => pf d (i + 1) + d * pf d i / (i + 1)
theorem atI_neg {α : Type} {xs : List α} {k : Nat} {v : α} (h1 : 0 < k) (h2 : k ≤ xs.length) (h : xs[xs.length - k]? = some v) : atI xs (-(k : Int)) = some v := by
  unfold atI ixN
  rw [if_neg (by omega), if_pos (by omega)]
  show xs[(-(k : Int) + (xs.length : Int)).toNat]? = some v
  rw [show (-(k : Int) + (xs.length : Int)).toNat = xs.length - k by omega]
  exact h
theorem cut_to (xs : List V) (j : Nat) : cutV xs none (some (j : Int)) = xs.take j := by
  unfold cutV
  rw [HT.sIx_nat, HT.sIx_none, List.drop_zero, Nat.sub_zero]
  by_cases h : j ≤ xs.length
  · rw [Nat.min_eq_left h]
  · rw [Nat.min_eq_right (by omega), List.take_length, List.take_of_length_le (by omega)]
theorem rowL_take (f : Nat → Nat) {n k : Nat} (h : k ≤ n) : (nV (rowL f n)).take k = nV (rowL f k) := by
  unfold nV rowL
  rw [← List.map_take, ← List.map_take, List.take_range, Nat.min_eq_left h]
theorem NumOf.same {H H' : Hp} {v : V} {a u : Nat} (s : Same H H') (h : NumOf H v a u) : NumOf H' v a u := NumAt.same s h
theorem NumOf.put {H : Hp} {D : Addr} {ws : List V} {o : HO} {v : V} {a u : Nat} (h : NumOf H v a u) (hD : H D = some (.lst ws)) : NumOf (upd H D o) v a u := by
  rcases h with h | ⟨h1, p, h2, h3⟩
  · exact .inl h
  · refine .inr ⟨h1, p, h2, ?_⟩
    rw [upd_ne (ne_of h3 hD (by intro z; cases z))]
    exact h3
/-- a list of numbers grows by one -/
theorem nums_more {H6 H7 : Hp} {D : Addr} {ws : List V} {v : V} {j : Nat} {A U : Nat → Nat} {o : HO} (s7 : Same H6 H7) (hD : H7 D = some (.lst ws)) (hl : ws.length = j) (h : ∀ (k : Nat) (x : V), ws[k]? = some x → NumOf H6 x (A k) (U k)) (hv : NumOf H7 v (A j) (U j)) :
    ∀ (k : Nat) (x : V), (ws ++ [v])[k]? = some x → NumOf (upd H7 D o) x (A k) (U k) := fun k x hk => by
  by_cases hkj : k < ws.length
  · rw [List.getElem?_append_left hkj] at hk
    exact ((h k x hk).same s7).put hD
  · rw [List.getElem?_append_right (by omega)] at hk
    have hk0 : k - ws.length = 0 := by
      have z := (List.getElem?_eq_some_iff.mp hk).1
      rw [List.length_singleton] at z
      omega
    rw [hk0] at hk
    obtain rfl : v = x := Option.some.inj hk
    have e : k = j := by omega
    rw [e]
    exact hv.put hD
section
variable {P : Program} {w : World} {K : PySem.W.Frag} {mg : Str → Option Value} {base : Heap} {CB CT : Addr}
/-! ### prices_to -/
def spPrices : Sp := fun vs H Q _ => ∃ g d : Nat, vs = [.int (g : Int), .int (d : Int)] ∧ 1 ≤ g ∧ g ≤ 60 ∧ d ≤ 100 ∧
  ∀ (H' : Hp) (p : Addr) (ws : List V), Same H H' → H' p = some (.lst ws) → ws.length = g → (∀ (j : Nat) (x : V), ws[j]? = some x → NumOf H' x (pf d j) (tw d)) → Q (.ref p) H'
theorem scPrices : FnScope ["goods", "days", "towers", "under", "found", "many", "above"] ["goods", "days"] (defScope sPrices) := ⟨rfl, rfl, rfl, by decide +kernel, rfl, by decide +kernel, by decide +kernel⟩
theorem ok_prices {f : Addr} {fd : FuncData} (F : Fun K "prices_to" "prices_to" sPrices f fd) (N : Nm mg) (DT : Dn P w K mg base CX0 2 "tower" ["number"] spTower) (DJ : Dn P w K mg base CX0 1 "joined" ["row", "towers", "days"] (spJoined K)) (DL : Dn P w K mg base CX0 2 "lowest" ["above", "under"] spLowest) :
    FnOk P w K mg base CX0 3 f fd ["goods", "days"] spPrices := by
  refine F.ok scPrices (fun vs H Q E h => ?_) (fun cdv A outer s H vs Q E hr h => ?_)
  · obtain ⟨_, _, rfl, _⟩ := h
    rfl
  · obtain ⟨g, d, rfl, h1, h60, hd, q⟩ := h
    refine ⟨_, pss_cons (ps_asg (pe_tup (pa_cons (pe_lc (own := [("many", 5)]) (g := gName 5) (tt := tYes) rfl scPrices.nd (pi_range1 (by rfl) N.rng (pa_cons (pe_op op_add (pv 1) pe_int) pa_nil))
            (blkOk_by (own := [("many", 5)]) (N := ["goods", "days", "towers", "under", "found", "many", "above"]) (sc := defScope sPrices) (by decide +kernel)) (fun _ _ _ _ _ => pg_name (i := 5) scPrices.nd rfl (.inl rfl)) (fun _ _ _ _ _ => pts_nil)
            (fun _ _ _ _ _ => pe_d DT hr (by rfl) (pa_cons (pv 5) pa_nil))) (pa_cons (pe_d DT hr (by rfl) (pa_cons (pv 1) pa_nil)) pa_nil)))
          (pg_tup rfl (pgs_cons (pg_name (i := 2) scPrices.nd rfl (.inl rfl)) (pgs_cons (pg_name (i := 3) scPrices.nd rfl (.inr rfl)) pgs_nil))))
      (pss_cons (ps_set (i := 4) scPrices.nd rfl (.inl rfl) (pe_lst (pa_cons (pv 3) (pa_cons (pe_d DJ hr (by rfl) (pa_cons (pv 2) (pa_cons (pv 2) (pa_cons (pv 1) pa_nil)))) pa_nil))))
      (pss_cons (ps_while PassesOwn.never (pt_cmpR op_lt (pe_callB call_len_seq (by rfl) N.len PySem.boot_len (pa_cons (pv 4) pa_nil)) (pv 0) (nomark _))
        (pss_one (ps_expr (pe_bm PySem.F.plainAttrs_list PySem.F.slot_list_append PySem.F.type_list_append mt_append (pv 4)
          (pa_cons (pe_op op_add (pe_ix ix_list (pv 4) (pe_un un_neg pe_int) (fun _ _ => rfl)) (pe_op op_fdivN (pe_op op_mul (pv 1) (pe_ix ix_list (pv 4) (pe_un un_neg pe_int) (fun _ _ => rfl))) (pe_op op_sub (pe_callB call_len_seq (by rfl) N.len PySem.boot_len (pa_cons (pv 4) pa_nil)) pe_int))) pa_nil)))))
      (pss_one (ps_ret (pe_lc (own := [("above", 6)]) (g := gName 6) (tt := tYes) rfl scPrices.nd (pi_list (pe_slice sl_list (pv 4) po_none (po_some (pv 0))))
            (blkOk_by (own := [("above", 6)]) (N := ["goods", "days", "towers", "under", "found", "many", "above"]) (sc := defScope sPrices) (by decide +kernel)) (fun _ _ _ _ _ => pg_name (i := 6) scPrices.nd rfl (.inl rfl)) (fun _ _ _ _ _ => pts_nil)
            (fun _ _ _ _ _ => pe_d DL hr (by rfl) (pa_cons (pv 6) (pa_cons (pv 3) pa_nil)))))))), ?_⟩
    -- towers, under
    have e1 : ((d : Int) + 1).toNat = d + 1 := by omega
    refine ⟨_, rfl, _, _, rfl, rfl, _, rfl, by omega, by omega, fun D hD => ?_⟩
    refine lc_range (lo := 0) (n := ((d : Int) + 1).toNat) (fun j H2 => Same H H2 ∧ H2 D = some (.lst (nV (rowL tw j)))) ⟨same_upd hD, upd_same⟩ ?_ ?_
    · rintro j H2 hj ⟨sm2, hD2⟩
      refine ⟨rfl, _, rfl, j, congrArg (fun z => [V.int z]) (by omega), by omega, _, hD2, ?_, sameN sm2 hD, ?_⟩
      · rw [nV_len, rowL_len, sizeLine_eq]
        omega
      · rw [upd_same, ← rowL_more]
    · rintro H1 ⟨s1, hD1⟩
      rw [e1] at hD1
      refine ⟨_, rfl, d, rfl, hd, by show 2 ≤ sizeLine; decide, fun p hp => ⟨p, _, rfl, SqT.of upd_same, rfl, _, _, rfl, _, _, rfl, rfl, ?_⟩⟩
      have s2 := same_upd (o := .tup [V.ref D, V.int ((tw d : Nat) : Int)]) hp
      -- found = [under, joined(..)]
      refine ⟨_, rfl, .ref D, rfl, .ref D, rfl, _, rfl, D, D, tw, tw, d + 1, d + 1, d, rfl, SqL.of (s2 _ _ hD1), SqL.of (s2 _ _ hD1), by omega, by omega, by omega, fun k hk => Nat.lt_trans (tw_lt (by omega)) (by decide +kernel), fun k hk => Nat.lt_trans (tw_lt (by omega)) (by decide +kernel),
        fun H3 s3 => ⟨by show 2 ≤ sizeLine; decide, fun r hr0 => ?_⟩⟩
      have s4 := same_upd (o := .lst [V.int ((tw d : Nat) : Int), V.int ((conv tw tw d : Nat) : Int)]) hr0
      have s0 := ((s1.trans s2).trans s3).trans s4
      have hrH : H r = none := ((s1.trans s2).trans s3).free hr0
      -- while len(found) < goods
      refine ⟨fun m σ H' => ∃ L : Nat, 2 ≤ L ∧ (L ≤ 2 ∨ L ≤ g) ∧ m = g - L ∧ σ = [some (.int (g : Int)), some (.int (d : Int)), some (.ref D), some (.int ((tw d : Nat) : Int)), some (.ref r), none, none] ∧ Same H H' ∧ H' r = some (.lst (nV (rowL (pf d) L))),
        ⟨_, 2, Nat.le_refl _, .inl (Nat.le_refl _), rfl, rfl, s0, upd_same⟩, ?_⟩
      rintro m σ H4 ⟨L, hL, hLg, rfl, rfl, sm, hr4⟩
      have len4 : (nV (rowL (pf d) L)).length = L := by rw [nV_len, rowL_len]
      refine ⟨.ref r, rfl, r, _, rfl, .inl (SqL.of hr4), _, rfl, _, _, rfl, rfl, _, rfl, ?_⟩
      rw [len4]
      refine ite2 (fun c => ?_) (fun c => ?_)
      · have hlt : L < g := by
          have z := of_decide_eq_true c
          omega
        refine ⟨fun σ' H' => ∃ L' : Nat, L < L' ∧ L' ≤ g ∧ σ' = [some (.int (g : Int)), some (.int (d : Int)), some (.ref D), some (.int ((tw d : Nat) : Int)), some (.ref r), none, none] ∧ Same H H' ∧ H' r = some (.lst (nV (rowL (pf d) L'))),
          fun σ' H' ⟨L', a1, a2, a3, a4, a5⟩ => ⟨g - L', by omega, L', by omega, .inr a2, rfl, a3, a4, a5⟩, ?_⟩
        obtain ⟨i, rfl⟩ : ∃ i, L = i + 2 := ⟨L - 2, by omega⟩
        have g1 : atI (nV (rowL (pf d) (i + 2))) (-1) = some (V.int ((pf d (i + 1) : Nat) : Int)) := atI_neg (k := 1) (by decide) (by omega) (by rw [len4]; exact nV_at (rowL_at _ (by omega)))
        have g2 : atI (nV (rowL (pf d) (i + 2))) (-2) = some (V.int ((pf d i : Nat) : Int)) := atI_neg (k := 2) (by decide) (by omega) (by rw [len4]; exact nV_at (rowL_at _ (by omega)))
        refine ⟨.ref r, rfl, .inl ⟨rfl, _, SqL.of hr4⟩, .ref r, rfl, 1, rfl, r, _, -1, _, rfl, rfl, SqL.of hr4, g1, _, rfl, .ref r, rfl, 2, rfl, r, _, -2, _, rfl, rfl, SqL.of hr4, g2, _, _, rfl, rfl, .inl ⟨by omega, by omega⟩,
          .ref r, rfl, r, _, rfl, .inl (SqL.of hr4), _, _, rfl, rfl, _, _, rfl, rfl, ⟨by omega, by omega⟩, _, _, rfl, rfl, r, _, _, rfl, rfl, hr4, ?_, ?_⟩
        · rw [len4, sizeLine_eq]
          omega
        · refine ⟨i + 3, by omega, by omega, rfl, sameN sm hrH, ?_⟩
          have em := rowL_more (pf d) (i + 2)
          rw [upd_same, ← em]
          show some (HO.lst (nV (rowL (pf d) (i + 2)) ++ [V.int (((pf d (i + 1) : Nat) : Int) + ((d : Int) * ((pf d i : Nat) : Int)).fdiv (((nV (rowL (pf d) (i + 2))).length : Int) - 1))])) = _
          rw [len4, show ((i + 2 : Nat) : Int) - 1 = ((i + 1 : Nat) : Int) by omega, Int.fdiv_eq_ediv_of_nonneg _ (by omega), ← Int.natCast_mul, ← Int.natCast_ediv, ← Int.natCast_add]
          rfl
      · have hge : g ≤ L := by
          have z : ¬ ((L : Int) < (g : Int)) := fun z => c (decide_eq_true z)
          omega
        refine ⟨.ref r, rfl, _, rfl, (g : Int), rfl, r, _, rfl, SqL.of hr4, fun p5 np5 => ⟨p5, rfl, ⟨_, SqL.of upd_same⟩, fun D2 hD2 => ?_⟩⟩
        rw [cut_to, rowL_take _ hge] at hD2 ⊢
        have s5 := same_upd (o := .lst (nV (rowL (pf d) g))) np5
        refine lc_list (K := K) (a := p5) (xs := nV (rowL (pf d) g)) (fun j H6 => Same (upd H4 p5 (.lst (nV (rowL (pf d) g)))) H6 ∧ ∃ ws : List V, H6 D2 = some (.lst ws) ∧ ws.length = j ∧ ∀ (k : Nat) (x : V), ws[k]? = some x → NumOf H6 x (pf d k) (tw d))
          ⟨same_upd hD2, [], upd_same, rfl, fun k x z => by simp at z⟩ (fun j H6 _ ⟨s6, _⟩ => SqL.of (s6 _ _ upd_same)) ?_ ?_
        · rintro j x H6 hx ⟨s6, ws, hw, hwl, hwn⟩
          obtain ⟨n, hn, rfl⟩ := nV_at' hx
          have hj : j < g := by
            have z := (List.getElem?_eq_some_iff.mp hn).1
            rw [rowL_len] at z
            exact z
          rw [rowL_at _ hj] at hn
          obtain rfl := Option.some.inj hn
          refine ⟨rfl, _, rfl, _, rfl, pf d j, tw d, rfl, tw_pos d, Nat.lt_trans (tw_lt (by omega)) (by decide +kernel), fun H7 v s7 hv => ?_⟩
          have hD7 : H7 D2 = some (.lst ws) := s7 _ _ hw
          refine ⟨ws, hD7, by rw [hwl, sizeLine_eq]; omega, sameN (s6.trans s7) hD2, ws ++ [v], upd_same, by rw [List.length_append, hwl]; rfl, nums_more (A := pf d) (U := fun _ => tw d) s7 hD7 hwl hwn hv⟩
        · rintro H6 ⟨s6, ws, hw, hwl, hwn⟩
          rw [nV_len, rowL_len] at hwl
          exact q H6 D2 ws ((sm.trans s5).trans s6) hw hwl hwn
/-! ### all_best, best_price -/
def spAllB : Sp := fun vs H Q _ => ∃ g d : Nat, vs = [.int (g : Int), .int (d : Int)] ∧ 1 ≤ g ∧ g ≤ 60 ∧ d ≤ 100 ∧
  ∀ (H' : Hp) (p : Addr) (ws : List V), Same H H' → H' p = some (.tup ws) → ws.length = g → (∀ (j : Nat) (x : V), ws[j]? = some x → NumOf H' x (pf d j) (tw d)) → Q (.ref p) H'
theorem scAllB : FnScope ["goods", "days"] ["goods", "days"] (defScope sAllB) := ⟨rfl, rfl, rfl, by decide +kernel, rfl, by decide +kernel, by decide +kernel⟩
theorem within_in {lo hi i : Int} (h1 : lo ≤ i) (h2 : i ≤ hi) : isWithK lo hi (.int i) = true := by
  show (decide (lo ≤ i) && decide (i ≤ hi)) = true
  rw [decide_eq_true h1, decide_eq_true h2]
  rfl
theorem ok_allB {f : Addr} {fd : FuncData} (F : Fun K "all_best" "all_best" sAllB f fd) (N : Nm mg) (DN : Dn P w K mg base (L2.CX P w) 3 "need_integer" ["value", "part", "least", "most"] (spNeedInt CB)) (DP : Dn P w K mg base CX0 3 "prices_to" ["goods", "days"] spPrices) :
    FnOk P w K mg base CX0 4 f fd ["goods", "days"] spAllB := by
  obtain ⟨tl, hlo⟩ := N.lots
  obtain ⟨td, hda⟩ := N.days
  refine F.ok scAllB (fun vs H Q E h => ?_) (fun cdv A outer s H vs Q E hr h => ?_)
  · obtain ⟨_, _, rfl, _⟩ := h
    rfl
  · obtain ⟨g, d, rfl, h1, h60, hd, q⟩ := h
    refine ⟨_, pss_cons (ps_expr (pe_dN DN hr (by rfl) (pa_cons (pv 0) (pa_cons pe_str (pa_cons pe_int (pa_cons (pe_glob (v := .int 60) (by rfl) hlo ⟨_, rfl⟩) pa_nil))))))
      (pss_cons (ps_expr (pe_dN DN hr (by rfl) (pa_cons (pv 1) (pa_cons pe_str (pa_cons pe_int (pa_cons (pe_glob (v := .int 250) (by rfl) hda ⟨_, rfl⟩) pa_nil))))))
      (pss_one (ps_ret (pe_callTy call_tuple_of (by rfl) N.ttup PyProof.Rows.boot_tuple (pa_cons (pe_d DP hr (by rfl) (pa_cons (pv 0) (pa_cons (pv 1) pa_nil))) pa_nil))))), ?_⟩
    have w1 : isWithK 1 60 (.int (g : Int)) = true := within_in (by omega) (by omega)
    have w2 : isWithK 0 250 (.int (d : Int)) = true := within_in (by omega) (by omega)
    refine ⟨_, rfl, .int (g : Int), .int (g : Int), "goods", 1, 60, rfl, rfl, fun _ => ?_, fun z => by rw [w1] at z; cases z⟩
    refine ⟨_, rfl, .int (d : Int), .int (d : Int), "days", 0, 250, rfl, rfl, fun _ => ?_, fun z => by rw [w2] at z; cases z⟩
    refine ⟨_, rfl, _, rfl, g, d, rfl, h1, h60, hd, fun H' p ws sm hp hl hn => ?_⟩
    refine ⟨p, ws, rfl, .inl ⟨SqL.of hp, fun l hl' => ?_⟩⟩
    have s2 := same_upd (o := .tup ws) hl'
    exact q _ l ws (sm.trans s2) upd_same hl fun j x hj => (hn j x hj).same s2
def spBestP : Sp := fun vs H Q _ => ∃ g d : Nat, vs = [.int (g : Int), .int (d : Int)] ∧ 1 ≤ g ∧ g ≤ 60 ∧ d ≤ 100 ∧ ∀ (H' : Hp) (v : V), Same H H' → NumOf H' v (pf d (g - 1)) (tw d) → Q v H'
theorem scBestP : FnScope ["goods", "days"] ["goods", "days"] (defScope sBestP) := ⟨rfl, rfl, rfl, by decide +kernel, rfl, by decide +kernel, by decide +kernel⟩
theorem ok_bestP {f : Addr} {fd : FuncData} (F : Fun K "best_price" "best_price" sBestP f fd) (D : Dn P w K mg base CX0 4 "all_best" ["goods", "days"] spAllB) : FnOk P w K mg base CX0 5 f fd ["goods", "days"] spBestP := by
  refine F.ok scBestP (fun vs H Q E h => ?_) (fun cdv A outer s H vs Q E hr h => ?_)
  · obtain ⟨_, _, rfl, _⟩ := h
    rfl
  · obtain ⟨g, d, rfl, h1, h60, hd, q⟩ := h
    refine ⟨_, pss_one (ps_ret (pe_ix ix_tup (pe_d D hr (by rfl) (pa_cons (pv 0) (pa_cons (pv 1) pa_nil))) (pe_un un_neg pe_int) (fun _ _ => rfl))), ?_⟩
    refine ⟨_, rfl, _, rfl, g, d, rfl, h1, h60, hd, fun H' p ws sm hp hl hn => ?_⟩
    obtain ⟨x, hx⟩ : ∃ x, ws[g - 1]? = some x := ⟨ws[g - 1]'(by omega), List.getElem?_eq_getElem (by omega)⟩
    have ga : atI ws (-1) = some x := atI_neg (k := 1) (by decide) (by omega) (by rw [hl]; exact hx)
    exact ⟨1, rfl, p, ws, -1, x, rfl, rfl, SqT.of hp, ga, q H' x sm (hn _ x hx)⟩
/-! ### best_rest -/
/-- right counts -/
def goodC (k : Kd) (c : List Nat) : Prop := (k = .lst (nV c) ∨ k = .tup (nV c)) ∧ 1 ≤ c.length ∧ c.length ≤ 5 ∧ ∀ x ∈ c, x ≤ 1000
def badC (H : Hp) (k : Kd) : Prop := isLstK k = false ∨ ∃ (xs : List V) (ks : Nat → Kd), (k = .lst xs ∨ k = .tup xs) ∧ xs.length ≤ 1000 ∧ (∀ (i : Nat) (x : V), xs[i]? = some x → KdAt H x (ks i)) ∧ cOk xs.length ks = false
def lotsOf (c : List Nat) (d : Nat) : Nat := ch (d + c.length - 1) (c.length - 1)
def spBestR (CB CT : Addr) : Sp := fun vs H Q E => ∃ (v y : V) (k l : Kd), vs = [v, y] ∧ KdAt H v k ∧ KdAt H y l ∧
  ((badC H k ∧ RB E CB "counts" H) ∨ (∃ c, goodC k c ∧ isWithK 0 250 l = false ∧ RB E CB "days" H) ∨ (∃ (c : List Nat) (d : Nat), goodC k c ∧ l = .int (d : Int) ∧ d ≤ 250 ∧ 5000 < lotsOf c d ∧ RT E CT "counts" 5000 H) ∨
    ∃ (c : List Nat) (d : Nat), goodC k c ∧ l = .int (d : Int) ∧ lotsOf c d ≤ 5000 ∧ c.sum + d ≤ 100 ∧ ∀ (H' : Hp) (v : V), Same H H' → NumOf H' v (S d c) (tw (c.sum + d)) → Q v H')
theorem scBestR : FnScope ["counts", "days", "told"] ["counts", "days"] (defScope sBestR) := ⟨rfl, rfl, rfl, by decide +kernel, rfl, by decide +kernel, by decide +kernel⟩
theorem cOk_good {c : List Nat} (h1 : 1 ≤ c.length) (h5 : c.length ≤ 5) (h : ∀ x ∈ c, x ≤ 1000) : cOk (nV c).length (fun i => .int ((c.getD i 0 : Nat) : Int)) = true := by
  unfold cOk
  rw [nV_len, decide_eq_true h1, decide_eq_true h5, Bool.and_self, Bool.true_and, List.all_eq_true]
  intro i hi
  have hi' := List.mem_range.mp hi
  refine within_in (by omega) ?_
  have hm : c.getD i 0 ∈ c := by
    rw [List.getD_eq_getElem?_getD, List.getElem?_eq_getElem hi']
    exact List.getElem_mem hi'
  have := h _ hm
  omega
theorem ok_bestR {f : Addr} {fd : FuncData} (F : Fun K "best_rest" "best_rest" sBestR f fd) (N : Nm mg) (DC : Dn P w K mg base (L2.CX P w) 3 "need_counted" ["value"] (spNeedC CB)) (DN : Dn P w K mg base (L2.CX P w) 3 "need_integer" ["value", "part", "least", "most"] (spNeedInt CB))
    (DH : Dn P w K mg base CX0 1 "choose_in" ["many", "some"] spChoose) (DR : Dn P w K mg base CX0 3 "rest_by" ["counts", "days"] (spRestBy K)) (B : ErrT P w K mg base CT) : FnOk P w K mg base (L2.CX P w) 4 f fd ["counts", "days"] (spBestR CB CT) := by
  obtain ⟨td, hda⟩ := N.days
  obtain ⟨tc, hct⟩ := N.counts
  refine F.okX scBestR (fun vs H Q E h => ?_) (fun cdv A outer s H vs Q E hr h => ?_)
  · obtain ⟨_, _, _, _, rfl, _⟩ := h
    rfl
  · obtain ⟨v, y, k, l, rfl, hv, hy, h⟩ := h
    refine ⟨_, pss_cons (ps_set (i := 2) scBestR.nd rfl (.inl rfl) (pe_dX (E := E) DC hr (by rfl) (takes_of rfl rfl rfl rfl) (pa_cons (pv 0) pa_nil)))
      (pss_cons (ps_expr (pe_dX (E := E) DN hr (by rfl) (takes_of rfl rfl rfl rfl) (pa_cons (pv 1) (pa_cons pe_str (pa_cons pe_int (pa_cons (pe_glob (v := .int 250) (by rfl) hda ⟨_, rfl⟩) pa_nil))))))
      (pss_cons (ps_if (pt_cmpR op_gt (pe_d DH hr (by rfl) (pa_cons (pe_op op_sub (pe_op op_add (pv 1) (pe_callB call_len_seq (by rfl) N.len PySem.boot_len (pa_cons (pv 2) pa_nil))) pe_int) (pa_cons (pe_op op_sub (pe_callB call_len_seq (by rfl) N.len PySem.boot_len (pa_cons (pv 2) pa_nil)) pe_int) pa_nil)))
          (pe_glob (v := .int 5000) (by rfl) hct ⟨_, rfl⟩) (nomark _)) (pss_one (ps_rT (E := E) rfl B hr (by decide) (takes_of rfl rfl rfl rfl) (by rfl) pe_str (pe_glob (v := .int 5000) (by rfl) hct ⟨_, rfl⟩))) pss_nil)
      (pss_one (ps_ret (pe_d DR hr (by rfl) (pa_cons (pv 2) (pa_cons (pv 1) pa_nil))))))), ?_⟩
    refine ⟨v, rfl, v, k, rfl, hv, ?_⟩
    rcases h with ⟨hb | ⟨xs, ks, hk, hz, hx, hc⟩, r⟩ | h
    · exact .inl ⟨hb, r⟩
    · exact .inr ⟨xs, ks, hk, hz, hx, fun _ => r, fun z => by rw [hc] at z; cases z⟩
    -- right counts
    obtain ⟨c, hg, h⟩ : ∃ c, goodC k c ∧ ((isWithK 0 250 l = false ∧ RB E CB "days" H) ∨ ∃ d : Nat, l = .int (d : Int) ∧ d ≤ 250 ∧ ((5000 < lotsOf c d ∧ RT E CT "counts" 5000 H) ∨
        (lotsOf c d ≤ 5000 ∧ c.sum + d ≤ 100 ∧ ∀ (H' : Hp) (v : V), Same H H' → NumOf H' v (S d c) (tw (c.sum + d)) → Q v H'))) := by
      rcases h with ⟨c, hg, h1, h2⟩ | ⟨c, d, hg, h1, h2, h3, h4⟩ | ⟨c, d, hg, h1, h2, h3, h4⟩
      · exact ⟨c, hg, .inl ⟨h1, h2⟩⟩
      · exact ⟨c, hg, .inr ⟨d, h1, h2, .inl ⟨h3, h4⟩⟩⟩
      · exact ⟨c, hg, .inr ⟨d, h1, by omega, .inr ⟨h2, h3, h4⟩⟩⟩
    obtain ⟨hk, hl1, hl5, hx⟩ := hg
    have hcok := cOk_good hl1 hl5 hx
    refine .inr ⟨nV c, fun i => .int ((c.getD i 0 : Nat) : Int), hk, by rw [nV_len]; omega, fun i x hi => ?_, fun z => (by rw [hcok] at z; cases z), fun _ H1 p s1 hp => ?_⟩
    · obtain ⟨n, hn, rfl⟩ := nV_at' hi
      show V.int (n : Int) = V.int ((c.getD i 0 : Nat) : Int)
      rw [List.getD_eq_getElem?_getD, hn]
      rfl
    refine ⟨y, rfl, y, l, "days", 0, 250, rfl, hy.same s1, fun hw => ?_, fun hw => ?_⟩
    · rcases h with ⟨h1, _⟩ | ⟨d, rfl, hd, h⟩
      · rw [h1] at hw
        cases hw
      · obtain rfl : y = .int (d : Int) := hy
        have el : (nV c).length = c.length := nV_len c
        refine ⟨_, rfl, .ref p, rfl, p, nV c, rfl, .inr (SqT.of hp), _, _, rfl, rfl, _, _, rfl, rfl, .ref p, rfl, p, nV c, rfl, .inr (SqT.of hp), _, _, rfl, rfl, d + c.length - 1, c.length - 1, ?_, by omega, by omega, by omega, _, _, rfl, rfl, _, rfl, ?_⟩
        · show [V.int ((d : Int) + ((nV c).length : Int) - 1), V.int (((nV c).length : Int) - 1)] = _
          rw [el, show (d : Int) + (c.length : Int) - 1 = ((d + c.length - 1 : Nat) : Int) by omega, show (c.length : Int) - 1 = ((c.length - 1 : Nat) : Int) by omega]
        rcases h with ⟨h1, r⟩ | ⟨h1, h2, q⟩
        · have z : decide ((5000 : Int) < ((ch (d + c.length - 1) (c.length - 1) : Nat) : Int)) = true := decide_eq_true (by unfold lotsOf at h1; omega)
          rw [z]
          exact iteT (rT_go B (r.same s1))
        · have z : decide ((5000 : Int) < ((ch (d + c.length - 1) (c.length - 1) : Nat) : Int)) = false := decide_eq_false (by unfold lotsOf at h1; omega)
          rw [z]
          exact iteF ⟨_, rfl, _, rfl, p, c, d, rfl, SqT.of hp, hl5, h2, fun H2 x s2 hn => q H2 x (s1.trans s2) hn⟩
    · rcases h with ⟨_, r⟩ | ⟨d, rfl, hd, _⟩
      · exact r.same s1
      · rw [within_in (by omega) (by omega)] at hw
        cases hw
end
end K52
/-! The law's draws: _law_crate, _law_fill, _law_one_of. -/
namespace K52
open PySem L2
/-- all but p is as it was -/
def SB (p : Addr) (H H' : Hp) : Prop := ∀ b o, b ≠ p → H b = some o → H' b = some o
theorem SB.of {p : Addr} {H H' : Hp} (s : Same H H') : SB p H H' := fun b o _ e => s b o e
theorem SB.trans {p : Addr} {H H1 H2 : Hp} (a : SB p H H1) (b : SB p H1 H2) : SB p H H2 := fun c o n e => b c o n (a c o n e)
theorem SB.put {p : Addr} {H H' : Hp} {o : HO} (s : SB p H H') : SB p H (upd H' p o) := fun b u n e => by
  rw [upd_ne n]
  exact s b u n e
/-- what draws: at p a list of the cells' list, how many were begun (at most n), what is left of a great one -/
def CrateAt (H : Hp) (p q : Addr) (n : Nat) : Prop := ∃ (cs : List Int) (t : Nat) (l : Int), H p = some (.lst [.ref q, .int (t : Int), .int l]) ∧ H q = some (.lst (cs.map V.int)) ∧ q ≠ p ∧ cs.length ≤ 63 ∧ t ≤ n
theorem CrateAt.same {H H' : Hp} {p q : Addr} {n : Nat} (s : Same H H') (h : CrateAt H p q n) : CrateAt H' p q n := by
  obtain ⟨cs, t, l, h1, h2, h3⟩ := h
  exact ⟨cs, t, l, s _ _ h1, s _ _ h2, h3⟩
theorem CrateAt.mono {H : Hp} {p q : Addr} {n m : Nat} (hm : n ≤ m) (h : CrateAt H p q n) : CrateAt H p q m := by
  obtain ⟨cs, t, l, h1, h2, h3, h4, h5⟩ := h
  exact ⟨cs, t, l, h1, h2, h3, h4, by omega⟩
theorem int_shaped (cs : List Int) : SeqAt.shaped (.list (cs.map PyData.int)) = true := by
  have h1 : ∀ l : List Int, PyData.canLayAll0 (l.map PyData.int) = true := fun l => by
    induction l with
    | nil => simp only [List.map_nil, PyData.canLayAll0]
    | cons a l ih => simp only [List.map_cons, PyData.canLayAll0, PyData.canLay0, ih, Bool.and_self]
  have h2 : ∀ l : List Int, PyData.depthAll (l.map PyData.int) = 0 := fun l => by
    induction l with
    | nil => simp only [List.map_nil, PyData.depthAll]
    | cons a l ih => simp only [List.map_cons, PyData.depthAll, PyData.depth, ih, Nat.max_self]
  unfold SeqAt.shaped
  simp only [PyData.canLay0, PyData.depth, h1, h2, Bool.true_and]
  decide
theorem ints_dp {K : PySem.W.Frag} {H : Hp} : ∀ cs : List Int, DpAll K H (cs.map V.int) (cs.map PyData.int)
  | [] => .nil
  | c :: r => .cons (.int c) (ints_dp r)
theorem eqv_nil (cs : List Int) : PyData.eqv (.list (cs.map PyData.int)) (.list []) = cs.isEmpty := by
  cases cs with
  | nil => simp only [List.map_nil, PyData.eqv, PyData.eqvAll, List.isEmpty]
  | cons a r => simp only [List.map_cons, PyData.eqv, PyData.eqvAll, List.isEmpty]
section
variable {P : Program} {w : World} {K : PySem.W.Frag} {mg : Str → Option Value} {base : Heap}
/-! ### _law_crate -/
def spCrate (K : PySem.W.Frag) : Sp := fun vs H Q _ => ∃ (a : Addr) (ns : List Int), vs = [.ref a] ∧ SqL K H a (ns.map V.int) ∧ ns.length ≤ 63 ∧ ∀ (H' : Hp) (p q : Addr), Same H H' → H p = none → CrateAt H' p q 0 → Q (.ref p) H'
theorem scCrate : FnScope ["_law_script", "_law_cell"] ["_law_script"] (defScope sCrate) := ⟨rfl, rfl, rfl, by decide +kernel, rfl, by decide +kernel, by decide +kernel⟩
theorem ok_crate {f : Addr} {fd : FuncData} (F : Fun K "_law_crate" "_law_crate" sCrate f fd) (N : Nm mg) : FnOk P w K mg base CX0 1 f fd ["_law_script"] (spCrate K) := by
  refine F.ok scCrate (fun vs H Q E h => ?_) (fun cdv A outer s H vs Q E hr h => ?_)
  · obtain ⟨_, _, rfl, _⟩ := h
    rfl
  · obtain ⟨a, ns, rfl, ha, hn, q⟩ := h
    refine ⟨_, pss_one (ps_ret (pe_lst (pa_cons (pe_lc (own := [("_law_cell", 1)]) (g := gName 1) (tt := tYes) rfl scCrate.nd (pi_list (pe_slice sl_list (pv 0) po_none (po_some pe_int)))
        (blkOk_by (own := [("_law_cell", 1)]) (N := ["_law_script", "_law_cell"]) (sc := defScope sCrate) (by decide +kernel)) (fun _ _ _ _ _ => pg_name (i := 1) scCrate.nd rfl (.inl rfl)) (fun _ _ _ _ _ => pts_nil)
        (fun _ _ _ _ _ => pe_callTy call_int1 (by rfl) N.tint PyProof.Rows.boot_int (pa_cons (pv 1) pa_nil))) (pa_cons pe_int (pa_cons pe_int pa_nil))))), ?_⟩
    refine ⟨.ref a, rfl, 60, rfl, a, _, rfl, ha, fun p5 np5 => ⟨p5, rfl, ⟨_, SqL.of upd_same⟩, fun D hD => ?_⟩⟩
    have ec : cutV (ns.map V.int) none (some 60) = (ns.take 60).map V.int := by
      show cutV (ns.map V.int) none (some ((60 : Nat) : Int)) = _
      rw [cut_to, List.map_take]
    rw [ec] at hD ⊢
    have s5 := same_upd (o := .lst ((ns.take 60).map V.int)) np5
    have h60 : (ns.take 60).length ≤ 63 := by
      rw [List.length_take]
      omega
    refine lc_list (K := K) (a := p5) (xs := (ns.take 60).map V.int) (fun j H6 => Same (upd H p5 (.lst ((ns.take 60).map V.int))) H6 ∧ H6 D = some (.lst (((ns.take 60).take j).map V.int))) ⟨same_upd hD, upd_same⟩ (fun j H6 _ ⟨s6, _⟩ => SqL.of (s6 _ _ upd_same)) ?_ ?_
    · rintro j x H6 hx ⟨s6, hD6⟩
      obtain ⟨z, hz, rfl⟩ : ∃ z, (ns.take 60)[j]? = some z ∧ V.int z = x := by
        rw [List.getElem?_map] at hx
        cases e : (ns.take 60)[j]? with
        | none => rw [e] at hx; cases hx
        | some z => rw [e] at hx; exact ⟨z, rfl, Option.some.inj hx⟩
      refine ⟨rfl, _, rfl, .inl ⟨z, rfl, _, hD6, ?_, sameN s6 hD, ?_⟩⟩
      · rw [List.length_map, List.length_take, sizeLine_eq]
        omega
      · rw [upd_same, take_snoc hz, List.map_append]
        rfl
    · rintro H6 ⟨s6, hD6⟩
      rw [List.length_map, List.take_length] at hD6
      refine ⟨by show 3 ≤ sizeLine; decide, fun p hp => ?_⟩
      have s7 := same_upd (o := .lst [.ref D, .int 0, .int 0]) hp
      exact q _ p D ((s5.trans s6).trans s7) ((s5.trans s6).free hp) ⟨ns.take 60, 0, 0, upd_same, s7 _ _ hD6, ne_of_none hD6 hp, h60, Nat.le_refl _⟩
/-! ### _law_fill -/
def spFill : Sp := fun vs H Q _ => ∃ (p q : Addr) (n m : Nat), vs = [.ref p, .int (m : Int)] ∧ CrateAt H p q n ∧ n ≤ 900 ∧ 0 < m ∧ m ≤ 1000 ∧ ∀ (H' : Hp) (r : Nat), SB p H H' → CrateAt H' p q (n + 1) → r < m → Q (.int (r : Int)) H'
theorem scFill : FnScope ["_law_crate_here", "_law_many", "_law_left", "_law_turn", "_law_cell", "_law_mixed"] ["_law_crate_here", "_law_many"] (defScope sFill) := ⟨rfl, rfl, rfl, by decide +kernel, rfl, by decide +kernel, by decide +kernel⟩
theorem emod_lt_nat (x : Int) {m : Nat} (h : 0 < m) : ∃ r : Nat, r < m ∧ x % (m : Int) = (r : Int) := ⟨(x % (m : Int)).toNat, by
  have h1 := Int.emod_lt_of_pos x (show (0 : Int) < (m : Int) by omega)
  have h2 := Int.emod_nonneg x (show (m : Int) ≠ 0 by omega)
  omega, by
  have h2 := Int.emod_nonneg x (show (m : Int) ≠ 0 by omega)
  omega⟩
theorem at2 (x y z : V) : atI [x, y, z] 2 = some z := atI_nat (j := 2) rfl
theorem at1 (x y z : V) : atI [x, y, z] 1 = some y := atI_nat (j := 1) rfl
theorem at0 (x y z : V) : atI [x, y, z] 0 = some x := atI_nat (j := 0) rfl
theorem ok_fill {f : Addr} {fd : FuncData} (F : Fun K "_law_fill" "_law_fill" sFill f fd) (N : Nm mg) : FnOk P w K mg base CX0 1 f fd ["_law_crate_here", "_law_many"] spFill := by
  refine F.ok scFill (fun vs H Q E h => ?_) (fun cdv A outer s H vs Q E hr h => ?_)
  · obtain ⟨_, _, _, _, rfl, _⟩ := h
    rfl
  · obtain ⟨p, q, n, m, rfl, ⟨cs, t, l, hp, hq, nqp, hc, ht⟩, hn, hm0, hm, k⟩ := h
    have ht9 : t ≤ 900 := by omega
    have done : ∀ (x : Int) (H3 : Hp), SB p H H3 → CrateAt H3 p q (n + 1) → Q (.int (x % (m : Int))) H3 := fun x H3 s3 c3 => by
      obtain ⟨r, hr, e⟩ := emod_lt_nat x hm0
      rw [e]
      exact k H3 r s3 c3 hr
    have cp : CPow 10 18 := ⟨by decide, by decide, by decide⟩
    have hmm : (0 : Int) < (m : Int) := by omega
    -- a mixed number
    have tail2 : ∃ T, PSs (cxOf CX0 P w K mg base ["_law_crate_here", "_law_many", "_law_left", "_law_turn", "_law_cell", "_law_mixed"] "_law_fill" (defScope sFill) f cdv A outer s H E).nox ((defBody sFill).drop 6) T ∧
        ∀ (c : Int) (H2 : Hp), SB p H H2 → CrateAt H2 p q (n + 1) → T { nx := fun _ H' => Q .non H', rt := Q } [some (.ref p), some (.int (m : Int)), none, some (.int (t : Int)), some (.int c), none] H2 := by
      refine ⟨_, pss_cons (ps_set (i := 5) scFill.nd rfl (.inl rfl) (pe_op op_mod (pe_callTy call_int1 (by rfl) N.tint PyProof.Rows.boot_int (pa_cons (pe_op op_pow (pe_op op_add (pe_op op_add (pe_op op_mod (pe_callTy call_int1 (by rfl) N.tint PyProof.Rows.boot_int (pa_cons (pv 4) pa_nil)) pe_int) (pe_op op_mul pe_int (pv 3))) pe_int) pe_int) pa_nil)) pe_int))
        (pss_cons (ps_set (i := 5) scFill.nd rfl (.inl rfl) (pe_op op_mod (pe_callTy call_int1 (by rfl) N.tint PyProof.Rows.boot_int (pa_cons (pe_op op_pow (pe_op op_add (pe_op op_add (pe_op op_mul (pv 5) (pe_op op_add (pe_op op_mul pe_int (pv 3)) pe_int)) (pe_op op_mul (pe_op op_mul pe_int (pv 3)) (pv 3))) pe_int) pe_int) pa_nil)) pe_int))
        (pss_one (ps_ret (pe_op op_mod (pe_callTy call_int1 (by rfl) N.tint PyProof.Rows.boot_int (pa_cons (pe_op op_fdivN (pv 5) pe_int) pa_nil)) (pv 1))))), ?_⟩
      intro c H2 sb cr2
      obtain ⟨r1, hr1, e1⟩ := emod_lt_nat ((c % 2147483587 + 52103 * (t : Int) + 9173) ^ (5 : Int).toNat) (m := 2147483563) (by decide)
      have hb1 : (c % 2147483587 + 52103 * (t : Int) + 9173).natAbs < 2 ^ 64 := by
        have h1 := Int.emod_lt_of_pos c (show (0 : Int) < 2147483587 by decide)
        have h2 := Int.emod_nonneg c (show (2147483587 : Int) ≠ 0 by decide)
        show _ < 18446744073709551616
        omega
      have hb2 : ((r1 : Int) * (2 * (t : Int) + 3079) + 70079 * (t : Int) * (t : Int) + 52103).natAbs < 2 ^ 64 := by
        have h1 : r1 * (2 * t + 3079) ≤ 2147483563 * 4879 := Nat.mul_le_mul (by omega) (by omega)
        have h2 : t * t ≤ 900 * 900 := Nat.mul_le_mul ht9 ht9
        have e : (r1 : Int) * (2 * (t : Int) + 3079) + 70079 * (t : Int) * (t : Int) + 52103 = ((r1 * (2 * t + 3079) + 70079 * (t * t) + 52103 : Nat) : Int) := by
          rw [Int.natCast_add, Int.natCast_add, Int.natCast_mul, Int.natCast_mul, Int.natCast_mul, Int.natCast_add, Int.natCast_mul, Int.mul_assoc]
          rfl
        rw [e, Int.natAbs_natCast]
        show _ < 18446744073709551616
        omega
      refine ⟨_, rfl, .inl ⟨c, rfl, _, _, rfl, rfl, (by show (0 : Int) < 2147483587; decide), _, rfl, _, _, rfl, rfl, .inl ⟨by omega, by omega⟩, _, _, rfl, rfl, _, _, rfl, rfl, _, _, rfl, rfl, ⟨by decide, by decide, hb1⟩, .inl ⟨_, rfl, _, _, rfl, rfl, (by show (0 : Int) < 2147483563; decide), ?_⟩⟩⟩
      have e1' : (c % 2147483587 + 52103 * (t : Int) + 9173) ^ (5 : Int).toNat % 2147483563 = (r1 : Int) := e1
      have ev : (fun i j : Int => V.int (i % j)) ((c % 2147483587 + 52103 * (t : Int) + 9173) ^ (5 : Int).toNat) 2147483563 = V.int (r1 : Int) := congrArg V.int e1'
      rw [ev]
      refine ⟨_, rfl, _, rfl, _, _, rfl, rfl, .inl ⟨by omega, by omega⟩, _, _, rfl, rfl, _, _, rfl, rfl, .inr ⟨by omega, by omega⟩, _, rfl, _, _, rfl, rfl, .inl ⟨by omega, by omega⟩, _, rfl, _, _, rfl, rfl, .inr ⟨by omega, by omega⟩, _, _, rfl, rfl, _, _, rfl, rfl, _, _, rfl, rfl, ⟨by decide, by decide, hb2⟩, .inl ⟨_, rfl, _, _, rfl, rfl, (by show (0 : Int) < 2147483629; decide), ?_⟩⟩
      refine ⟨_, rfl, _, _, rfl, rfl, ⟨by decide, by decide⟩, .inl ⟨_, rfl, _, rfl, _, _, rfl, rfl, hmm, ?_⟩⟩
      exact done _ _ sb cr2
    obtain ⟨T2, hT2, go2⟩ := tail2
    -- behind the cell: a great one, else a mixed number
    have tail : ∃ T, PSs (cxOf CX0 P w K mg base ["_law_crate_here", "_law_many", "_law_left", "_law_turn", "_law_cell", "_law_mixed"] "_law_fill" (defScope sFill) f cdv A outer s H E).nox ((defBody sFill).drop 5) T ∧
        ∀ (c : Int) (H2 : Hp), SB p H H2 → H2 p = some (.lst [.ref q, .int ((t + 1 : Nat) : Int), .int l]) → H2 q = some (.lst (cs.map V.int)) →
          T { nx := fun _ H' => Q .non H', rt := Q } [some (.ref p), some (.int (m : Int)), none, some (.int (t : Int)), some (.int c), none] H2 := by
      refine ⟨_, pss_cons (ps_if (PW.pt (pw_and (pt_cmpR op_lt (pv 3) (pe_callB call_len_seq (by rfl) N.len PySem.boot_len (pa_cons (pe_ix ix_list (pv 0) pe_int (fun _ _ => rfl)) pa_nil)) (nomark _))
            (pw_and1 (pt_cmpR op_ge (pe_callB call_abs (by rfl) N.abs PyProof.Rows.boot_abs (pa_cons (pv 4) pa_nil)) (pe_op op_pow pe_int pe_int) (nomark _)))))
          (pss_cons (ps_set (i := 2) scFill.nd rfl (.inl rfl) (pe_op op_add (pe_op op_mul pe_int (pe_op op_sub (pe_callB call_abs (by rfl) N.abs PyProof.Rows.boot_abs (pa_cons (pe_callTy call_int1 (by rfl) N.tint PyProof.Rows.boot_int (pa_cons (pv 4) pa_nil)) pa_nil)) (pe_op op_pow pe_int pe_int)))
              (pe_callTy call_int1 (by rfl) N.tint PyProof.Rows.boot_int (pa_cons (pe_cmpR op_lt (pv 4) pe_int (nomark _)) pa_nil))))
            (pss_cons (ps_asg (pe_op op_fdivN (pv 2) (pv 1)) (pg_sub (pv 0) pe_int set_list)) (pss_one (ps_ret (pe_op op_mod (pe_callTy call_int1 (by rfl) N.tint PyProof.Rows.boot_int (pa_cons (pv 2) pa_nil)) (pv 1)))))) pss_nil) hT2, ?_⟩
      intro c H2 sb hp2 hq2
      have cr2 : CrateAt H2 p q (n + 1) := ⟨cs, t + 1, l, hp2, hq2, nqp, hc, by omega⟩
      refine ⟨_, rfl, .ref p, rfl, p, _, 0, .ref q, rfl, rfl, SqL.of hp2, at0 _ _ _, q, _, rfl, .inl (SqL.of hq2), _, _, rfl, rfl, _, rfl, ?_⟩
      refine ite2 (fun _ => ⟨_, rfl, c, rfl, _, _, rfl, rfl, cp, _, _, rfl, rfl, _, rfl, ite2 (fun _ => ?_) (fun _ => go2 c H2 sb cr2)⟩) (fun _ => go2 c H2 sb cr2)
      refine ⟨_, rfl, .inl ⟨c, rfl, c, rfl, _, _, rfl, rfl, cp, _, _, rfl, rfl, _, _, rfl, rfl, .inl ⟨by omega, by omega⟩, _, rfl, _, _, rfl, rfl, .inr ⟨_, rfl, _, _, rfl, rfl, ?_⟩⟩⟩
      refine ⟨_, rfl, _, rfl, _, _, rfl, rfl, ⟨by omega, by omega⟩, .ref p, rfl, p, _, 2, 2, rfl, rfl, hp2, rfl, ?_⟩
      refine ⟨_, rfl, .inl ⟨_, rfl, _, rfl, _, _, rfl, rfl, hmm, ?_⟩⟩
      exact done _ _ sb.put ⟨cs, t + 1, _, upd_same, by rw [upd_ne nqp]; exact hq2, nqp, hc, by omega⟩
    obtain ⟨T, hT, go⟩ := tail
    refine ⟨_, pss_cons (ps_if (pt_cmpR op_gt (pe_ix ix_list (pv 0) pe_int (fun _ _ => rfl)) pe_int (nomark _))
        (pss_cons (ps_set (i := 2) scFill.nd rfl (.inl rfl) (pe_callTy call_int1 (by rfl) N.tint PyProof.Rows.boot_int (pa_cons (pe_ix ix_list (pv 0) pe_int (fun _ _ => rfl)) pa_nil)))
        (pss_cons (ps_asg (pe_op op_fdivN (pv 2) (pv 1)) (pg_sub (pv 0) pe_int set_list)) (pss_one (ps_ret (pe_op op_mod (pe_callTy call_int1 (by rfl) N.tint PyProof.Rows.boot_int (pa_cons (pv 2) pa_nil)) (pv 1)))))) pss_nil)
      (pss_cons (ps_set (i := 3) scFill.nd rfl (.inl rfl) (pe_ix ix_list (pv 0) pe_int (fun _ _ => rfl)))
      (pss_cons (ps_asg (pe_op op_add (pv 3) pe_int) (pg_sub (pv 0) pe_int set_list))
      (pss_cons (ps_set (i := 4) scFill.nd rfl (.inl rfl) (pe_op op_add (pe_op op_mul pe_int (pv 3)) pe_int))
      (pss_cons (ps_if (pt_cmpR (op_neD hr.units) (pe_ix ix_list (pv 0) pe_int (fun _ _ => rfl)) (pe_lst pa_nil) (nomark _))
        (pss_one (ps_set (i := 4) scFill.nd rfl (.inl rfl) (pe_ix ix_list (pe_ix ix_list (pv 0) pe_int (fun _ _ => rfl)) (pe_op op_mod (pe_callTy call_int1 (by rfl) N.tint PyProof.Rows.boot_int (pa_cons (pv 3) pa_nil)) (pe_callB call_len_seq (by rfl) N.len PySem.boot_len (pa_cons (pe_ix ix_list (pv 0) pe_int (fun _ _ => rfl)) pa_nil))) (fun _ _ => rfl)))) pss_nil) hT)))), ?_⟩
    refine ⟨.ref p, rfl, p, _, 2, .int l, rfl, rfl, SqL.of hp, at2 _ _ _, _, _, rfl, rfl, _, rfl, ite2 (fun _ => ?_) (fun _ => ?_)⟩
    · refine ⟨.ref p, rfl, p, _, 2, .int l, rfl, rfl, SqL.of hp, at2 _ _ _, .inl ⟨l, rfl, ?_⟩⟩
      refine ⟨_, rfl, _, rfl, _, _, rfl, rfl, ⟨by omega, by omega⟩, .ref p, rfl, p, _, 2, 2, rfl, rfl, hp, rfl, ?_⟩
      refine ⟨_, rfl, .inl ⟨_, rfl, _, rfl, _, _, rfl, rfl, hmm, ?_⟩⟩
      exact done _ _ (SB.put (SB.of (Same.refl H))) ⟨cs, t, _, upd_same, by rw [upd_ne nqp]; exact hq, nqp, hc, by omega⟩
    · refine ⟨.ref p, rfl, p, _, 1, _, rfl, rfl, SqL.of hp, at1 _ _ _, ?_⟩
      refine ⟨_, rfl, _, _, rfl, rfl, .ref p, rfl, p, _, 1, 1, rfl, rfl, hp, rfl, ?_⟩
      have hp1 : upd H p (.lst [.ref q, .int ((t + 1 : Nat) : Int), .int l]) p = some (.lst [.ref q, .int ((t + 1 : Nat) : Int), .int l]) := upd_same
      have hq1 : upd H p (.lst [.ref q, .int ((t + 1 : Nat) : Int), .int l]) q = some (.lst (cs.map V.int)) := by rw [upd_ne nqp]; exact hq
      have sb1 : SB p H (upd H p (.lst [.ref q, .int ((t + 1 : Nat) : Int), .int l])) := SB.put (SB.of (Same.refl H))
      refine ⟨_, rfl, _, _, rfl, rfl, .inl ⟨by omega, by omega⟩, _, _, rfl, rfl, ?_⟩
      refine ⟨.ref p, rfl, p, _, 0, .ref q, rfl, rfl, SqL.of hp1, at0 _ _ _, Nat.zero_le _, fun p2 n2 => ?_⟩
      have s2 := same_upd (o := .lst []) n2
      have sb2 := sb1.trans (SB.of (p := p) s2)
      refine ⟨_, _, Dp.lst (SqL.of (s2 _ _ hq1)) (ints_dp cs), Dp.lst (SqL.of upd_same) .nil, int_shaped cs, by decide +kernel, _, rfl, ?_⟩
      rw [eqv_nil]
      have hq2 := s2 _ _ hq1
      cases hcs : cs.isEmpty with
      | true => exact iteF (go _ _ sb2 (s2 _ _ hp1) hq2)
      | false =>
        have hlen : 0 < cs.length := by
          cases cs with
          | nil => cases hcs
          | cons _ _ => rw [List.length_cons]; omega
        obtain ⟨j, hj, ej⟩ := emod_lt_nat (t : Int) hlen
        obtain ⟨z, hz⟩ : ∃ z, cs[j]? = some z := ⟨cs[j], List.getElem?_eq_getElem hj⟩
        have hlm : (cs.map V.int).length = cs.length := List.length_map ..
        have hz2 : atI (cs.map V.int) ((t : Int) % ((cs.map V.int).length : Int)) = some (V.int z) := by
          rw [hlm, ej]
          exact atI_nat (by rw [List.getElem?_map, hz]; rfl)
        refine iteT ⟨.ref p, rfl, p, _, 0, .ref q, rfl, rfl, SqL.of (s2 _ _ hp1), at0 _ _ _, _, rfl, .inl ⟨_, rfl, .ref p, rfl, p, _, 0, .ref q, rfl, rfl, SqL.of (s2 _ _ hp1), at0 _ _ _, q, _, rfl, .inl (SqL.of hq2), _, _, rfl, rfl, (by rw [hlm]; omega), q, _, _, _, rfl, rfl, SqL.of hq2, hz2, ?_⟩⟩
        exact go z _ sb2 (s2 _ _ hp1) hq2
/-! ### _law_one_of -/
def spOneOf (K : PySem.W.Frag) : Sp := fun vs H Q _ => ∃ (p q a : Addr) (n : Nat) (xs : List V), vs = [.ref p, .ref a] ∧ CrateAt H p q n ∧ a ≠ p ∧ H a = some (.lst xs) ∧ n ≤ 900 ∧ 0 < xs.length ∧ xs.length ≤ 1000 ∧
  ∀ (H' : Hp) (r : Nat) (x : V), SB p H H' → CrateAt H' p q (n + 1) → xs[r]? = some x → Q x H'
theorem scOneOf : FnScope ["_law_crate_here", "_law_some"] ["_law_crate_here", "_law_some"] (defScope sOneOf) := ⟨rfl, rfl, rfl, by decide +kernel, rfl, by decide +kernel, by decide +kernel⟩
theorem ok_oneOf {f : Addr} {fd : FuncData} (F : Fun K "_law_one_of" "_law_one_of" sOneOf f fd) (N : Nm mg) (D : Dn P w K mg base CX0 1 "_law_fill" ["_law_crate_here", "_law_many"] spFill) : FnOk P w K mg base CX0 2 f fd ["_law_crate_here", "_law_some"] (spOneOf K) := by
  refine F.ok scOneOf (fun vs H Q E h => ?_) (fun cdv A outer s H vs Q E hr h => ?_)
  · obtain ⟨_, _, _, _, _, rfl, _⟩ := h
    rfl
  · obtain ⟨p, q, a, n, xs, rfl, hp, hap, ha, hn, h0, h1, k⟩ := h
    refine ⟨_, pss_one (ps_ret (pe_ix ix_list (pv 1) (pe_d D hr (by rfl) (pa_cons (pv 0) (pa_cons (pe_callB call_len_seq (by rfl) N.len PySem.boot_len (pa_cons (pv 1) pa_nil)) pa_nil))) (fun _ _ => rfl))), ?_⟩
    refine ⟨_, rfl, .ref p, rfl, .ref a, rfl, a, xs, rfl, .inl (SqL.of ha), p, q, n, xs.length, rfl, hp, hn, h0, h1, fun H' r sb cr hr => ?_⟩
    have hx : xs[r]? = some xs[r] := List.getElem?_eq_getElem hr
    exact ⟨a, xs, (r : Int), xs[r], rfl, rfl, SqL.of (sb _ _ hap ha), atI_nat hx, k H' r _ sb cr hx⟩
end
end K52
/-! The law's own reckoning: _law_number, _law_halves, _law_tower, _law_worth, _law_rest, _law_sum_right. -/
namespace K52
open PySem L2
theorem prodT_snoc (c : List Nat) (x : Nat) : prodT (c ++ [x]) = prodT c * tw x := by
  unfold prodT
  rw [List.map_append, List.foldr_append]
  show (c.map tw).foldr (· * ·) (tw x * 1) = _
  rw [Nat.mul_one]
  have go : ∀ (l : List Nat) (z : Nat), l.foldr (· * ·) z = l.foldr (· * ·) 1 * z := by
    intro l z
    induction l with
    | nil => show z = 1 * z; rw [Nat.one_mul]
    | cons a l ih => show a * l.foldr (· * ·) z = a * l.foldr (· * ·) 1 * z; rw [ih, Nat.mul_assoc]
  exact go _ _
theorem nV_set (l : List Nat) (j x : Nat) : (nV l).set j (V.int (x : Int)) = nV (l.set j x) := by
  unfold nV
  rw [List.map_set]
theorem mem_sum : ∀ {l : List Nat} {x : Nat}, x ∈ l → x ≤ l.sum
  | [], _, h => by cases h
  | a :: r, x, h => by
    show x ≤ a + r.sum
    rcases List.mem_cons.mp h with e | h
    · omega
    · have := mem_sum (l := r) h
      omega
theorem cut_from (xs : List V) (j : Nat) : cutV xs (some (j : Int)) none = xs.drop j := by
  unfold cutV
  rw [HT.sIx_nat, HT.sIx_none]
  by_cases h : j ≤ xs.length
  · rw [Nat.min_eq_left h]
    exact List.take_of_length_le (by rw [List.length_drop]; omega)
  · rw [Nat.min_eq_right (by omega), Nat.sub_self, List.take_zero, List.drop_of_length_le (by omega)]
/-- a number as data -/
def numD (a u : Nat) : PyData := if u = 1 then .int (a : Int) else .tuple [.int (a : Int), .int (u : Int)]
theorem NumAt.dp {K : PySem.W.Frag} {H : Hp} {v : V} {a u : Nat} (h : NumAt H v a u) : Dp K H v (numD a u) := by
  unfold numD
  rcases h with ⟨e, rfl⟩ | ⟨e, p, rfl, hp⟩
  · rw [if_pos e]
    exact .int _
  · rw [if_neg e]
    exact .tup (SqT.of hp) (.cons (.int _) (.cons (.int _) .nil))
theorem numD_shaped (a u : Nat) : SeqAt.shaped (numD a u) = true := by
  unfold numD
  split
  · simp only [SeqAt.shaped, PyData.canLay0, PyData.depth, Bool.true_and]
    rfl
  · simp only [SeqAt.shaped, PyData.canLay0, PyData.canLayAll0, PyData.depth, PyData.depthAll, Bool.true_and]
    rfl
section
variable {P : Program} {w : World} {K : PySem.W.Frag} {mg : Str → Option Value} {base : Heap} {CB CT : Addr}
/-! ### _law_number -/
theorem scNumber : FnScope ["_law_above", "_law_under", "_law_one", "_law_other", "_law_sign"] ["_law_above", "_law_under"] (defScope sNumber) := ⟨rfl, rfl, rfl, by decide +kernel, rfl, by decide +kernel, by decide +kernel⟩
theorem ok_number {f : Addr} {fd : FuncData} (F : Fun K "_law_number" "_law_number" sNumber f fd) (N : Nm mg) : FnOk P w K mg base CX0 1 f fd ["_law_above", "_law_under"] spLowest := by
  refine F.ok scNumber (fun vs H Q E h => ?_) (fun cdv A outer s H vs Q E hr h => ?_)
  · obtain ⟨_, _, rfl, _⟩ := h
    rfl
  · obtain ⟨a, u, rfl, hu, hz, q⟩ := h
    have hg : 0 < Nat.gcd a u := Nat.gcd_pos_of_pos_right _ hu
    have hg2 : Nat.gcd a u < 2 ^ 9000 := Nat.lt_of_le_of_lt (Nat.gcd_le_right _ hu) hz
    refine ⟨_, pss_cons (ps_par (i := 2) (j := 3) rfl scNumber.nd rfl rfl (by decide) rfl rfl (pa_cons (pe_callB call_abs (by rfl) N.abs PyProof.Rows.boot_abs (pa_cons (pv 0) pa_nil)) (pa_cons (pe_callB call_abs (by rfl) N.abs PyProof.Rows.boot_abs (pa_cons (pv 1) pa_nil)) pa_nil)) (by rfl))
      (pss_cons (ps_while PassesOwn.never (pt_cmpR op_gt (pv 3) pe_int (nomark _)) (pss_one (ps_par (i := 2) (j := 3) rfl scNumber.nd rfl rfl (by decide) rfl rfl (pa_cons (pv 3) (pa_cons (pe_op op_mod (pe_callTy call_int1 (by rfl) N.tint PyProof.Rows.boot_int (pa_cons (pv 2) pa_nil)) (pv 3)) pa_nil)) (by rfl))))
      (pss_cons (ps_set (i := 4) scNumber.nd rfl (.inl rfl) (pe_ifExp (pt_cmpR op_lt (pv 1) pe_int (nomark _)) (pe_un un_neg pe_int) pe_int))
      (pss_cons (ps_par (i := 0) (j := 1) rfl scNumber.nd rfl rfl (by decide) rfl rfl (pa_cons (pe_op op_fdivW (pe_op op_mul (pv 4) (pv 0)) (pv 2)) (pa_cons (pe_op op_fdivW (pe_op op_mul (pv 4) (pv 1)) (pv 2)) pa_nil)) (by rfl))
      (pss_one (ps_ret (pe_ifExp (pt_cmpR op_eq (pv 1) pe_int (nomark _)) (pv 0) (pe_tup (pa_cons (pv 0) (pa_cons (pv 1) pa_nil))))))))), ?_⟩
    refine ⟨_, rfl, _, rfl, _, rfl, _, rfl, _, _, rfl, ?_⟩
    rw [abs_nat, abs_nat]
    refine ⟨fun m σ H' => ∃ x y : Nat, σ = [some (.int (a : Int)), some (.int (u : Int)), some (.int (x : Int)), some (.int (y : Int)), none] ∧ H' = H ∧ m = y ∧ Nat.gcd x y = Nat.gcd a u, ⟨_, _, _, rfl, rfl, rfl, rfl⟩, ?_⟩
    rintro m σ H' ⟨x, y, rfl, rfl, rfl, he⟩
    refine ⟨_, rfl, _, _, rfl, rfl, _, rfl, ite2 (fun c => ?_) (fun c => ?_)⟩
    · have hb : 0 < m := by
        have z := of_decide_eq_true c
        omega
      refine ⟨fun σ' H'' => ∃ x y : Nat, σ' = [some (.int (a : Int)), some (.int (u : Int)), some (.int (x : Int)), some (.int (y : Int)), none] ∧ H'' = H' ∧ y < m ∧ Nat.gcd x y = Nat.gcd a u, fun σ' H'' ⟨x, y, e1, e2, e3, e4⟩ => ⟨y, e3, x, y, e1, e2, rfl, e4⟩, ?_⟩
      refine ⟨_, rfl, _, rfl, .inl ⟨_, rfl, _, rfl, _, _, rfl, rfl, (by show (0 : Int) < (m : Int); omega), _, _, rfl, ?_⟩⟩
      refine ⟨m, x % m, ?_, rfl, Nat.mod_lt _ hb, ?_⟩
      · rw [Int.natCast_emod]
        rfl
      · rw [← he, Nat.gcd_comm x m, Nat.gcd_rec m x, Nat.gcd_comm]
    · have hb : m = 0 := by
        have z : ¬ ((0 : Int) < (m : Int)) := fun z => c (decide_eq_true z)
        omega
      subst hb
      rw [Nat.gcd_zero_right] at he
      subst he
      have ng : ¬ ((u : Int) < 0) := by omega
      have cd : ∀ i : Int, CDivW i ((Nat.gcd a u : Nat) : Int) := fun i => wide_div (b := 9000) (by omega) (by omega) (by decide) (by decide)
      refine ⟨_, rfl, _, _, rfl, rfl, _, rfl, ?_⟩
      rw [decide_eq_false ng]
      refine iteF ?_
      refine ⟨_, rfl, _, rfl, _, _, rfl, rfl, .inl ⟨by decide, by decide⟩, _, rfl, _, _, rfl, rfl, cd _, _, rfl, _, rfl, _, _, rfl, rfl, .inl ⟨by decide, by decide⟩, _, rfl, _, _, rfl, rfl, cd _, _, _, rfl, ?_⟩
      refine ⟨_, rfl, rfl, _, rfl, ?_⟩
      have e1 : (1 * (a : Int)) / ((Nat.gcd a u : Nat) : Int) = ((a / Nat.gcd a u : Nat) : Int) := by rw [Int.one_mul, Int.natCast_ediv]
      have e2 : (1 * (u : Int)) / ((Nat.gcd a u : Nat) : Int) = ((u / Nat.gcd a u : Nat) : Int) := by rw [Int.one_mul, Int.natCast_ediv]
      refine ite2 (fun c => ?_) (fun c => ?_)
      · have z : (1 * (u : Int)) / ((Nat.gcd a u : Nat) : Int) = 1 := V.int.inj (of_decide_eq_true c)
        rw [e2] at z
        refine ⟨_, rfl, ?_⟩
        show Q (V.int ((1 * (a : Int)) / ((Nat.gcd a u : Nat) : Int))) H'
        rw [e1]
        exact q _ _ (Same.refl _) (.inl ⟨by omega, rfl⟩)
      · have z : ¬ (1 * (u : Int)) / ((Nat.gcd a u : Nat) : Int) = 1 := fun z => c (decide_eq_true (congrArg V.int z))
        rw [e2] at z
        refine ⟨_, rfl, _, rfl, by show 2 ≤ sizeLine; decide, fun p hp => ?_⟩
        show Q (V.ref p) (upd H' p (.tup [.int ((1 * (a : Int)) / ((Nat.gcd a u : Nat) : Int)), .int ((1 * (u : Int)) / ((Nat.gcd a u : Nat) : Int))]))
        rw [e1, e2]
        exact q _ _ (same_upd hp) (.inr ⟨by omega, p, rfl, upd_same⟩)
/-! ### _law_halves -/
def spHalves : Sp := fun vs H Q _ => ∃ (v : V) (a u : Nat), vs = [v] ∧ NumAt H v a u ∧ ∀ (H' : Hp) (p : Addr), Same H H' → H' p = some (.tup [.int (a : Int), .int (u : Int)]) → Q (.ref p) H'
theorem scHalves : FnScope ["_law_number_here"] ["_law_number_here"] (defScope sHalves) := ⟨rfl, rfl, rfl, by decide +kernel, rfl, by decide +kernel, by decide +kernel⟩
theorem ok_halves {f : Addr} {fd : FuncData} (F : Fun K "_law_halves" "_law_halves" sHalves f fd) (N : Nm mg) : FnOk P w K mg base CX0 1 f fd ["_law_number_here"] spHalves := by
  refine F.ok scHalves (fun vs H Q E h => ?_) (fun cdv A outer s H vs Q E hr h => ?_)
  · obtain ⟨_, _, _, rfl, _⟩ := h
    rfl
  · obtain ⟨v, a, u, rfl, hv, q⟩ := h
    refine ⟨_, pss_one (ps_ret (pe_ifExp (pt_val (pe_callB call_isi (by rfl) N.isi PyProof.Rows.boot_isinstance (pa_cons (pv 0) (pa_cons (pe_bltn (v := .ty "int") (by rfl) N.tint PyProof.Rows.boot_int rfl) pa_nil))))
      (pe_tup (pa_cons (pv 0) (pa_cons pe_int pa_nil))) (pe_tup (pa_cons (pe_ix ix_tup (pv 0) pe_int (fun _ _ => rfl)) (pa_cons (pe_ix ix_tup (pv 0) pe_int (fun _ _ => rfl)) pa_nil))))), ?_⟩
    rcases hv with ⟨rfl, rfl⟩ | ⟨hu, p, rfl, hp⟩
    · refine ⟨_, rfl, _, .ty "int", _, _, true, rfl, .ty "int", (show KdAt H (.int (a : Int)) (.int (a : Int)) from rfl).ty, kit_ty (kb_int _), _, rfl, ?_⟩
      exact iteT ⟨_, rfl, by show 2 ≤ sizeLine; decide, fun p hp => q _ p (same_upd hp) upd_same⟩
    · refine ⟨_, rfl, _, .ty "int", _, _, false, rfl, .ty "int", (show KdAt H (.ref p) (.tup [.int (a : Int), .int (u : Int)]) from ⟨p, rfl, hp⟩).ty, kit_ty (kb_int _), _, rfl, ?_⟩
      refine iteF ⟨.ref p, rfl, p, _, 0, _, rfl, rfl, SqT.of hp, atI_nat (j := 0) rfl, .ref p, rfl, p, _, 1, _, rfl, rfl, SqT.of hp, atI_nat (j := 1) rfl, by show 2 ≤ sizeLine; decide, fun p2 hp2 => q _ p2 (same_upd hp2) upd_same⟩
/-! ### _law_tower -/
theorem scLTower : FnScope ["_law_number_here", "_law_found", "_law_turn"] ["_law_number_here"] (defScope sLTower) := ⟨rfl, rfl, rfl, by decide +kernel, rfl, by decide +kernel, by decide +kernel⟩
theorem ok_ltower {f : Addr} {fd : FuncData} (F : Fun K "_law_tower" "_law_tower" sLTower f fd) (N : Nm mg) : FnOk P w K mg base CX0 1 f fd ["_law_number_here"] spTower := by
  refine F.ok scLTower (fun vs H Q E h => ?_) (fun cdv A outer s H vs Q E hr h => ?_)
  · obtain ⟨_, rfl, _⟩ := h
    rfl
  · obtain ⟨n, rfl, hn, q⟩ := h
    refine ⟨_, pss_cons (ps_set (i := 1) scLTower.nd rfl (.inl rfl) pe_int)
      (pss_cons (ps_for PassesOwn.never rfl (pi_range1 (by rfl) N.rng (pa_cons (pv 0) pa_nil)) (pg_name (i := 2) scLTower.nd rfl (.inl rfl))
        (pss_one (ps_set (i := 1) scLTower.nd rfl (.inl rfl) (pe_op op_mul (pv 1) (pv 0)))))
      (pss_one (ps_ret (pv 1)))), ?_⟩
    refine ⟨_, rfl, _, rfl, by omega, by omega, ?_⟩
    refine for_range (lo := 0) (n := (n : Int).toNat) (fun i σ H' => ∃ y, σ = [some (.int (n : Int)), some (.int ((n ^ i : Nat) : Int)), y] ∧ H' = H) ⟨_, by rw [Nat.pow_zero]; rfl, rfl⟩ ?_ ?_
    · rintro i σ H' hi ⟨y, rfl, rfl⟩
      refine ⟨_, rfl, _, rfl, _, _, rfl, rfl, .inr ⟨by omega, by omega⟩, some (.int (0 + (i : Int))), ?_, rfl⟩
      rw [Nat.pow_succ, Int.natCast_mul]
      rfl
    · rintro σ H' ⟨y, rfl, rfl⟩
      rw [Int.toNat_natCast]
      exact ⟨_, rfl, q⟩
/-! ### _law_worth -/
def spLWorth (K : PySem.W.Frag) : Sp := fun vs H Q _ => ∃ (a : Addr) (c : List Nat), vs = [.ref a] ∧ SqL K H a (nV c) ∧ c.sum ≤ 100 ∧ ∀ (H' : Hp) (p : Addr), Same H H' → H' p = some (.tup [.int ((prodT c : Nat) : Int), .int ((tw c.sum : Nat) : Int)]) → Q (.ref p) H'
theorem scLWorth : FnScope ["_law_counts", "_law_found", "_law_count"] ["_law_counts"] (defScope sLWorth) := ⟨rfl, rfl, rfl, by decide +kernel, rfl, by decide +kernel, by decide +kernel⟩
theorem ok_lworth {f : Addr} {fd : FuncData} (F : Fun K "_law_worth" "_law_worth" sLWorth f fd) (N : Nm mg) (D : Dn P w K mg base CX0 1 "_law_tower" ["_law_number_here"] spTower) : FnOk P w K mg base CX0 2 f fd ["_law_counts"] (spLWorth K) := by
  refine F.ok scLWorth (fun vs H Q E h => ?_) (fun cdv A outer s H vs Q E hr h => ?_)
  · obtain ⟨_, _, rfl, _⟩ := h
    rfl
  · obtain ⟨a, c, rfl, ha, hs, q⟩ := h
    refine ⟨_, pss_cons (ps_set (i := 1) scLWorth.nd rfl (.inl rfl) pe_int)
      (pss_cons (ps_for PassesOwn.never rfl (pi_list (pv 0)) (pg_name (i := 2) scLWorth.nd rfl (.inl rfl))
        (pss_one (ps_set (i := 1) scLWorth.nd rfl (.inl rfl) (pe_op op_mulW (pv 1) (pe_d D hr (by rfl) (pa_cons (pv 2) pa_nil))))))
      (pss_one (ps_ret (pe_tup (pa_cons (pv 1) (pa_cons (pe_d D hr (by rfl) (pa_cons (pe_callB (cr_sum rfl) (by rfl) N.sum PyProof.Rows.boot_sum (pa_cons (pv 0) pa_nil)) pa_nil)) pa_nil)))))), ?_⟩
    refine ⟨_, rfl, a, rfl, ⟨_, ha⟩, for_list (K := K) (a := a) (xs := nV c) (fun i σ H' => ∃ y, σ = [some (.ref a), some (.int ((prodT (c.take i) : Nat) : Int)), y] ∧ H' = H) ⟨_, rfl, rfl⟩ (fun i σ H' _ ⟨_, _, e⟩ => by rw [e]; exact ha) ?_ ?_⟩
    · rintro i x σ H' hi ⟨y, rfl, rfl⟩
      obtain ⟨n, hn, rfl⟩ := nV_at' hi
      have hns := mem_le_sum hn
      have hp : prodT (c.take i) < 2 ^ 701 := Nat.lt_of_le_of_lt (prod_le (c.take i)) (tw_lt (Nat.le_trans (sum_take_le c i) hs))
      have ht : tw n < 2 ^ 701 := tw_lt (by omega)
      refine ⟨_, rfl, _, rfl, n, rfl, by omega, _, _, rfl, rfl, wide_mul (a := 701) (b := 701) (by omega) (by omega) (by decide) (by decide) (by decide), some (.int (n : Int)), ?_, rfl⟩
      rw [take_snoc hn, prodT_snoc, Int.natCast_mul]
      rfl
    · rintro σ H' ⟨y, rfl, rfl⟩
      rw [nV_len, List.take_length]
      refine ⟨_, rfl, .ref a, rfl, a, c.map fun n : Nat => (n : Int), rfl, by rw [nV_ints]; exact ha, c.sum, congrArg (fun z => [V.int z]) (int_sum c), hs, by show 2 ≤ sizeLine; decide, fun p hp => ?_⟩
      exact q _ p (same_upd hp) upd_same
/-! ### _law_rest -/
def spLRest (K : PySem.W.Frag) : Sp := fun vs H Q _ => ∃ (a : Addr) (c : List Nat) (d : Nat), vs = [.ref a, .int (d : Int)] ∧ SqL K H a (nV c) ∧ 1 ≤ c.length ∧ c.length ≤ 5 ∧ d ≤ 9 ∧ c.sum + d ≤ 100 ∧ ∀ (H' : Hp) (v : V), Same H H' → NumOf H' v (S d c) (tw (c.sum + d)) → Q v H'
theorem scLRest : FnScope ["_law_counts", "_law_days", "_law_goods", "_law_many", "_law_above", "_law_day", "_law_word", "_law_left", "_law_found"] ["_law_counts", "_law_days"] (defScope sLRest) := ⟨rfl, rfl, rfl, by decide +kernel, rfl, by decide +kernel, by decide +kernel⟩
theorem ok_lrest {f : Addr} {fd : FuncData} (F : Fun K "_law_rest" "_law_rest" sLRest f fd) (N : Nm mg) (DW : Dn P w K mg base CX0 2 "_law_worth" ["_law_counts"] (spLWorth K)) (DT : Dn P w K mg base CX0 1 "_law_tower" ["_law_number_here"] spTower) (DN : Dn P w K mg base CX0 1 "_law_number" ["_law_above", "_law_under"] spLowest) :
    FnOk P w K mg base CX0 3 f fd ["_law_counts", "_law_days"] (spLRest K) := by
  refine F.ok scLRest (fun vs H Q E h => ?_) (fun cdv A outer s H vs Q E hr h => ?_)
  · obtain ⟨_, _, _, rfl, _⟩ := h
    rfl
  · obtain ⟨a, c, d, rfl, ha, hl1, hl5, hd9, hs, q⟩ := h
    refine ⟨_, pss_cons (ps_par3 (i := 2) (j := 3) (l := 4) rfl scLRest.nd rfl rfl rfl (by decide) (by decide) (by decide) rfl rfl rfl (pa_cons (pe_callB call_len_seq (by rfl) N.len PySem.boot_len (pa_cons (pv 0) pa_nil)) (pa_cons pe_int (pa_cons pe_int pa_nil))) (by rfl))
      (pss_cons (ps_for PassesOwn.never rfl (pi_range1 (by rfl) N.rng (pa_cons (pv 1) pa_nil)) (pg_name (i := 5) scLRest.nd rfl (.inl rfl)) (pss_one (ps_set (i := 3) scLRest.nd rfl (.inl rfl) (pe_op op_mul (pv 3) (pv 2)))))
      (pss_cons (ps_for PassesOwn.never rfl (pi_range1 (by rfl) N.rng (pa_cons (pv 3) pa_nil)) (pg_name (i := 6) scLRest.nd rfl (.inl rfl))
        (pss_cons (ps_par (i := 7) (j := 8) rfl scLRest.nd rfl rfl (by decide) rfl rfl (pa_cons (pv 6) (pa_cons (pe_callTy call_list_of (by rfl) N.tlist PyProof.Rows.boot_list (pa_cons (pv 0) pa_nil)) pa_nil)) (by rfl))
        (pss_cons (ps_for PassesOwn.never rfl (pi_range1 (by rfl) N.rng (pa_cons (pv 1) pa_nil)) (pg_name (i := 5) scLRest.nd rfl (.inl rfl))
          (pss_cons (ps_asg (pe_op op_add (pe_ix ix_list (pv 8) (pe_op op_mod (pe_callTy call_int1 (by rfl) N.tint PyProof.Rows.boot_int (pa_cons (pv 7) pa_nil)) (pv 2)) (fun _ _ => rfl)) pe_int)
              (pg_sub (pv 8) (pe_op op_mod (pe_callTy call_int1 (by rfl) N.tint PyProof.Rows.boot_int (pa_cons (pv 7) pa_nil)) (pv 2)) set_list))
          (pss_one (ps_set (i := 7) scLRest.nd rfl (.inl rfl) (pe_op op_fdivN (pv 7) (pv 2))))))
        (pss_one (ps_set (i := 4) scLRest.nd rfl (.inl rfl) (pe_op op_add (pv 4) (pe_ix ix_tup (pe_d DW hr (by rfl) (pa_cons (pv 8) pa_nil)) pe_int (fun _ _ => rfl))))))))
      (pss_one (ps_ret (pe_d DN hr (by rfl) (pa_cons (pv 4) (pa_cons (pe_d DT hr (by rfl) (pa_cons (pe_op op_add (pe_callB (cr_sum rfl) (by rfl) N.sum PyProof.Rows.boot_sum (pa_cons (pv 0) pa_nil)) (pv 1)) pa_nil)) pa_nil))))))), ?_⟩
    obtain ⟨g, hg⟩ : ∃ g, c.length = g := ⟨_, rfl⟩
    have hgv : (nV c).length = g := by rw [nV_len, hg]
    have hpow : g ^ d < 2 ^ 62 := by
      have h1 : g ^ d ≤ 5 ^ d := Nat.pow_le_pow_left (by omega) d
      have h2 : (5 : Nat) ^ d ≤ 5 ^ 9 := Nat.pow_le_pow_right (by decide) hd9
      have h3 : (5 : Nat) ^ 9 < 2 ^ 62 := by decide
      omega
    refine ⟨.ref a, rfl, a, _, rfl, .inl ha, _, _, _, rfl, ?_⟩
    rw [hgv]
    -- many
    refine ⟨_, rfl, _, rfl, by omega, by omega, ?_⟩
    refine for_range (lo := 0) (n := (d : Int).toNat) (fun i σ H' => ∃ y, σ = [some (.ref a), some (.int (d : Int)), some (.int (g : Int)), some (.int ((g ^ i : Nat) : Int)), some (.int 0), y, none, none, none] ∧ H' = H) ⟨_, by rw [Nat.pow_zero]; rfl, rfl⟩ ?_ ?_
    · rintro i σ H' hi ⟨y, rfl, rfl⟩
      refine ⟨_, rfl, _, rfl, _, _, rfl, rfl, .inr ⟨by omega, by omega⟩, some (.int (0 + (i : Int))), ?_, rfl⟩
      rw [Nat.pow_succ, Int.natCast_mul]
      rfl
    rintro σ H' ⟨y, rfl, rfl⟩
    rw [Int.toNat_natCast]
    -- all words
    refine ⟨_, rfl, _, rfl, by omega, by omega, ?_⟩
    refine for_range (lo := 0) (n := ((g ^ d : Nat) : Int).toNat) (fun i σ H2 => ∃ y5 y6 y7 y8, σ = [some (.ref a), some (.int (d : Int)), some (.int (g : Int)), some (.int ((g ^ d : Nat) : Int)), some (.int ((sumTo i (fun w => prodT (addD g d w c)) : Nat) : Int)), y5, y6, y7, y8] ∧ Same H' H2)
      ⟨_, _, _, _, rfl, Same.refl _⟩ ?_ ?_
    · rintro i σ H2 hi ⟨y5, y6, y7, y8, rfl, sm⟩
      refine ⟨_, rfl, .ref a, rfl, a, _, rfl, .inl (sm.seq ha), fun fo hfo => ⟨_, _, rfl, ?_⟩⟩
      have s2 := same_upd (o := .lst (nV c)) hfo
      -- the word's goods, day by day
      refine ⟨_, rfl, _, rfl, by omega, by omega, ?_⟩
      refine for_range (lo := 0) (n := (d : Int).toNat) (fun j σ H3 => ∃ (y5 : Option V) (l : Nat) (e : List Nat), σ = [some (.ref a), some (.int (d : Int)), some (.int (g : Int)), some (.int ((g ^ d : Nat) : Int)), some (.int ((sumTo i (fun w => prodT (addD g d w c)) : Nat) : Int)), y5, some (.int (0 + (i : Int))), some (.int (l : Int)), some (.ref fo)] ∧
        Same H2 H3 ∧ H3 fo = some (.lst (nV e)) ∧ e.length = g ∧ addD g (d - j) l e = addD g d i c)
        ⟨y5, i, c, by rw [Int.zero_add]; rfl, s2, upd_same, hg, rfl⟩ ?_ ?_
      · rintro j σ H3 hj ⟨y5, l, e, rfl, s3, hfo3, hel, hae⟩
        have hg0 : 0 < g := by omega
        have hmod : ((l : Int)) % (g : Int) = ((l % g : Nat) : Int) := (Int.natCast_emod l g).symm
        have hlt : l % g < e.length := by rw [hel]; exact Nat.mod_lt _ hg0
        have hget : e[l % g]? = some (e.getD (l % g) 0) := by
          rw [List.getD_eq_getElem?_getD, List.getElem?_eq_getElem hlt]
          rfl
        have hix : ixN (nV e).length ((l : Int) % (g : Int)) = some (l % g) := by
          unfold ixN
          rw [hmod, nV_len, if_pos (by omega), if_pos (by omega), Int.toNat_natCast]
        refine ⟨.ref fo, rfl, _, rfl, .inl ⟨_, rfl, _, rfl, _, _, rfl, rfl, (by show (0 : Int) < (g : Int); omega), fo, _, _, _, rfl, rfl, SqL.of hfo3, at_of hmod (nV_at hget), _, _, rfl, rfl, ?_⟩⟩
        refine ⟨.ref fo, rfl, _, rfl, .inl ⟨_, rfl, _, rfl, _, _, rfl, rfl, (by show (0 : Int) < (g : Int); omega), fo, _, _, _, rfl, rfl, hfo3, hix, ?_⟩⟩
        refine ⟨_, rfl, _, rfl, _, _, rfl, rfl, ⟨by omega, by omega⟩, ?_⟩
        refine ⟨some (.int (0 + (j : Int))), l / g, bump e (l % g), ?_, sameN s3 hfo, ?_, by rw [bump_len, hel], ?_⟩
        · show [some (V.ref a), some (.int (d : Int)), some (.int (g : Int)), some (.int ((g ^ d : Nat) : Int)), some (.int ((sumTo i (fun w => prodT (addD g d w c)) : Nat) : Int)), some (.int (0 + (j : Int))), some (.int (0 + (i : Int))), some (.int ((l : Int).fdiv (g : Int))), some (.ref fo)] = _
          rw [Int.fdiv_eq_ediv_of_nonneg _ (by omega), ← Int.natCast_ediv]
        · rw [upd_same]
          show some (HO.lst ((nV e).set (l % g) (V.int (((e.getD (l % g) 0 : Nat) : Int) + 1)))) = _
          rw [show ((e.getD (l % g) 0 : Nat) : Int) + 1 = ((e.getD (l % g) 0 + 1 : Nat) : Int) by omega, nV_set]
          rfl
        · rw [← hae, show d - j = (d - (j + 1)) + 1 by omega]
          rfl
      · rintro σ H3 ⟨y5, l, e, rfl, s3, hfo3, hel, hae⟩
        rw [Int.toNat_natCast, Nat.sub_self] at hae
        have hae' : e = addD g d i c := hae
        have hsum : e.sum = c.sum + d := by rw [hae', addD_sum g (by omega) d i c hg]
        refine ⟨_, rfl, .ref fo, rfl, fo, e, rfl, SqL.of hfo3, by omega, fun H4 p s4 hp => ?_⟩
        refine ⟨p, _, 0, _, rfl, rfl, SqT.of hp, atI_nat (j := 0) rfl, _, _, rfl, rfl, ?_⟩
        refine ⟨y5, some (.int (0 + (i : Int))), some (.int (l : Int)), some (.ref fo), ?_, (sm.trans s3).trans s4⟩
        · show [some (V.ref a), some (.int (d : Int)), some (.int (g : Int)), some (.int ((g ^ d : Nat) : Int)), some (.int (((sumTo i (fun w => prodT (addD g d w c)) : Nat) : Int) + ((prodT e : Nat) : Int))), y5, some (.int (0 + (i : Int))), some (.int (l : Int)), some (.ref fo)] = _
          rw [← Int.natCast_add, hae']
          rfl
    · rintro σ H2 ⟨y5, y6, y7, y8, rfl, sm⟩
      rw [Int.toNat_natCast, listing g (by omega) d c hg]
      refine ⟨_, rfl, .ref a, rfl, a, c.map fun n : Nat => (n : Int), rfl, by rw [nV_ints]; exact sm.seq ha, _, rfl, _, _, rfl, rfl, c.sum + d, congrArg (fun z => [V.int z]) (by rw [int_sum]; omega), hs, ?_⟩
      exact ⟨S d c, tw (c.sum + d), rfl, tw_pos _, Nat.lt_trans (tw_lt hs) (by decide +kernel), fun H3 v s3 hn => q H3 v (sm.trans s3) hn⟩
end
end K52
/-! _law_sum_right. -/
namespace K52
open PySem L2
theorem bump_parts {c : List Nat} {g x : Nat} (h : c[g]? = some x) : (nV c).take g ++ [V.int ((x : Int) + 1)] ++ (nV c).drop (g + 1) = nV (bump c g) := by
  have hg : g < c.length := (List.getElem?_eq_some_iff.mp h).1
  have hx : c.getD g 0 = x := by
    rw [List.getD_eq_getElem?_getD, h]
    rfl
  unfold bump
  rw [hx, List.set_eq_take_append_cons_drop, if_pos hg]
  unfold nV
  rw [List.map_append, List.map_cons, List.map_take, List.map_drop, List.append_assoc]
  rfl
theorem part_step {A B T x y s g : Nat} (h1 : A * T = B * s) (hx : x * T = g * y) : (A * y + x * s) * T = (B + g) * (s * y) := by
  have e1 : A * y * T = B * (s * y) := by
    rw [Nat.mul_right_comm, h1, Nat.mul_assoc]
  have e2 : x * s * T = g * (s * y) := by
    rw [Nat.mul_right_comm, hx, Nat.mul_assoc, Nat.mul_comm y s]
  rw [Nat.add_mul, e1, e2, Nat.add_mul]
theorem sumTo_mono {f : Nat → Nat} : ∀ {n m : Nat}, n ≤ m → sumTo n f ≤ sumTo m f
  | n, 0, h => by
    have e : n = 0 := by omega
    rw [e]
    exact Nat.le_refl _
  | n, m + 1, h => by
    by_cases e : n = m + 1
    · rw [e]
      exact Nat.le_refl _
    · exact Nat.le_trans (sumTo_mono (m := m) (by omega)) (Nat.le_add_right _ _)
section
variable {P : Program} {w : World} {K : PySem.W.Frag} {mg : Str → Option Value} {base : Heap} {CB CT : Addr}
def spSumR (K : PySem.W.Frag) : Sp := fun vs H Q _ => ∃ (a : Addr) (c : List Nat) (d : Nat), vs = [.ref a, .int (d : Int)] ∧ H a = some (.lst (nV c)) ∧ 1 ≤ d ∧ 1 ≤ c.length ∧ c.length ≤ 5 ∧ c.sum + d ≤ 100 ∧ lotsOf c d ≤ 5000 ∧ lotsOf c (d - 1) ≤ 5000 ∧ ∀ H', Same H H' → Q (.bl true) H'
theorem scSumR : FnScope ["_law_counts", "_law_days", "_law_above", "_law_under", "_law_good", "_law_x", "_law_y"] ["_law_counts", "_law_days"] (defScope sSumR) := ⟨rfl, rfl, rfl, by decide +kernel, rfl, by decide +kernel, by decide +kernel⟩
theorem lots_bump (c : List Nat) (g d : Nat) : lotsOf (bump c g) d = lotsOf c d := by unfold lotsOf; rw [bump_len]
theorem ok_sumR {f : Addr} {fd : FuncData} (F : Fun K "_law_sum_right" "_law_sum_right" sSumR f fd) (N : Nm mg) (DB : Dn P w K mg base (L2.CX P w) 4 "best_rest" ["counts", "days"] (spBestR CB CT)) (DV : Dn P w K mg base CX0 1 "_law_halves" ["_law_number_here"] spHalves) (DN : Dn P w K mg base CX0 1 "_law_number" ["_law_above", "_law_under"] spLowest) :
    FnOk P w K mg base CX0 5 f fd ["_law_counts", "_law_days"] (spSumR K) := by
  refine F.ok scSumR (fun vs H Q E h => ?_) (fun cdv A outer s H vs Q E hr h => ?_)
  · obtain ⟨_, _, _, rfl, _⟩ := h
    rfl
  · obtain ⟨a, c, d, rfl, ha, hd1, hl1, hl5, hs, hlo, hlo1, q⟩ := h
    refine ⟨_, pss_cons (ps_asg (pe_tup (pa_cons pe_int (pa_cons pe_int pa_nil))) (pg_tup rfl (pgs_cons (pg_name (i := 2) scSumR.nd rfl (.inl rfl)) (pgs_cons (pg_name (i := 3) scSumR.nd rfl (.inl rfl)) pgs_nil))))
      (pss_cons (ps_for PassesOwn.never rfl (pi_range1 (by rfl) N.rng (pa_cons (pe_callB call_len_seq (by rfl) N.len PySem.boot_len (pa_cons (pv 0) pa_nil)) pa_nil)) (pg_name (i := 4) scSumR.nd rfl (.inl rfl))
        (pss_cons (ps_asg (pe_d DV hr (by rfl) (pa_cons (pe_dN DB hr (by rfl) (pa_cons (pe_op op_cat (pe_op op_cat (pe_slice sl_list (pv 0) po_none (po_some (pv 4))) (pe_lst (pa_cons (pe_op op_add (pe_ix ix_list (pv 0) (pv 4) (fun _ _ => rfl)) pe_int) pa_nil)))
              (pe_slice sl_list (pv 0) (po_some (pe_op op_add (pv 4) pe_int)) po_none)) (pa_cons (pe_op op_sub (pv 1) pe_int) pa_nil))) pa_nil))
            (pg_tup rfl (pgs_cons (pg_name (i := 5) scSumR.nd rfl (.inl rfl)) (pgs_cons (pg_name (i := 6) scSumR.nd rfl (.inl rfl)) pgs_nil))))
        (pss_one (ps_par (i := 2) (j := 3) rfl scSumR.nd rfl rfl (by decide) rfl rfl (pa_cons (pe_op op_add (pe_op op_mulW (pv 2) (pv 6)) (pe_op op_mulW (pv 5) (pv 3))) (pa_cons (pe_op op_mulW (pv 3) (pv 6)) pa_nil)) (by rfl)))))
      (pss_one (ps_ret (pe_cmpR (op_eqD hr.units) (pe_dN DB hr (by rfl) (pa_cons (pv 0) (pa_cons (pv 1) pa_nil))) (pe_d DN hr (by rfl) (pa_cons (pv 2) (pa_cons (pv 3) pa_nil))) (nomark _))))), ?_⟩
    obtain ⟨d0, rfl⟩ : ∃ d0, d = d0 + 1 := ⟨d - 1, by omega⟩
    have hx1000 : ∀ x ∈ c, x ≤ 1000 := fun x hx => by have := mem_sum hx; omega
    have hT := tw_lt hs
    have hT0 := tw_pos (c.sum + (d0 + 1))
    have hS : S (d0 + 1) c < 2 ^ 1001 := S_lt (by omega) hs
    refine ⟨by show 2 ≤ sizeLine; decide, fun p hp => ⟨p, _, rfl, SqT.of upd_same, rfl, _, _, rfl, _, _, rfl, rfl, ?_⟩⟩
    have s1 := same_upd (o := .tup [V.int 0, V.int 1]) hp
    refine ⟨.ref a, rfl, a, _, rfl, .inl (SqL.of (s1 _ _ ha)), _, rfl, by rw [nV_len]; omega, by rw [nV_len]; omega, ?_⟩
    refine for_range (lo := 0) (n := ((nV c).length : Int).toNat) (fun i σ H1 => ∃ (A U : Nat) (y4 y5 y6 : Option V), σ = [some (.ref a), some (.int ((d0 + 1 : Nat) : Int)), some (.int (A : Int)), some (.int (U : Int)), y4, y5, y6] ∧ Same H H1 ∧ 0 < U ∧ U ≤ 2 ^ (701 * i) ∧
        A * tw (c.sum + (d0 + 1)) = sumTo i (fun g => S d0 (bump c g)) * U) ⟨0, 1, _, _, _, rfl, s1, by decide, by decide, by rw [Nat.zero_mul]; show 0 = 0 * 1; rfl⟩ ?_ ?_
    · rintro i σ H1 hi ⟨A, U, y4, y5, y6, rfl, sm, hU, hUz, hA⟩
      rw [nV_len, Int.toNat_natCast] at hi
      obtain ⟨x, hx⟩ : ∃ x, c[i]? = some x := ⟨c[i], List.getElem?_eq_getElem hi⟩
      have hcl : (nV c).length = c.length := nV_len c
      -- the counts with one more
      refine ⟨.ref a, rfl, _, rfl, 0 + (i : Int), rfl, a, _, rfl, SqL.of (sm _ _ ha), fun p1 n1 => ?_⟩
      have t1 := same_upd (o := .lst (cutV (nV c) none (some (0 + (i : Int))))) n1
      refine ⟨.ref a, rfl, _, rfl, a, _, _, _, rfl, rfl, SqL.of ((sm.trans t1) _ _ ha), at_of (Int.zero_add _) (nV_at hx), _, _, rfl, rfl, by show 1 ≤ sizeLine; decide, fun p2 n2 => ?_⟩
      have t2 := same_upd (o := .lst [V.int ((x : Int) + 1)]) n2
      refine ⟨p1, p2, _, _, rfl, rfl, t2 _ _ upd_same, upd_same, ?_, fun p3 n3 => ?_⟩
      · have := cutV_length (nV c) none (some (0 + (i : Int)))
        rw [sizeLine_eq]
        show _ + 1 ≤ _
        omega
      have t3 := same_upd (o := .lst (cutV (nV c) none (some (0 + (i : Int))) ++ [V.int ((x : Int) + 1)])) n3
      refine ⟨.ref a, rfl, _, rfl, _, _, rfl, rfl, 0 + (i : Int) + 1, rfl, a, _, rfl, SqL.of ((((sm.trans t1).trans t2).trans t3) _ _ ha), fun p4 n4 => ?_⟩
      have t4 := same_upd (o := .lst (cutV (nV c) (some (0 + (i : Int) + 1)) none)) n4
      refine ⟨p3, p4, _, _, rfl, rfl, t4 _ _ upd_same, upd_same, ?_, fun p5 n5 => ?_⟩
      · have h1 := cutV_length (nV c) none (some (0 + (i : Int)))
        have h2 := cutV_length (nV c) (some (0 + (i : Int) + 1)) none
        rw [sizeLine_eq, List.length_append]
        show _ + 1 + _ ≤ _
        omega
      have t5 := same_upd (o := .lst (cutV (nV c) none (some (0 + (i : Int))) ++ [V.int ((x : Int) + 1)] ++ cutV (nV c) (some (0 + (i : Int) + 1)) none)) n5
      have e5 : cutV (nV c) none (some (0 + (i : Int))) ++ [V.int ((x : Int) + 1)] ++ cutV (nV c) (some (0 + (i : Int) + 1)) none = nV (bump c i) := by
        rw [show (0 + (i : Int)) + 1 = ((i + 1 : Nat) : Int) by omega, Int.zero_add, cut_to, cut_from]
        exact bump_parts hx
      have s5 := (((sm.trans t1).trans t2).trans t3).trans (t4.trans t5)
      have hbs : (bump c i).sum = c.sum + 1 := bump_sum hi
      refine ⟨_, rfl, _, _, rfl, rfl, .ref p5, .int (((d0 + 1 : Nat) : Int) - 1), .lst (nV (bump c i)), .int ((d0 : Nat) : Int), rfl, ⟨p5, rfl, upd_same.trans (congrArg (fun z => some (HO.lst z)) e5)⟩, congrArg V.int (by omega), .inr (.inr (.inr ⟨bump c i, d0, ⟨.inl rfl, by rw [bump_len]; omega, by rw [bump_len]; omega, fun y hy => ?_⟩, rfl, ?_, by omega, fun H6 v s6 hv => ?_⟩))⟩
      · have := mem_sum hy
        omega
      · rw [lots_bump]
        exact hlo1
      rw [hbs, show c.sum + 1 + d0 = c.sum + (d0 + 1) by omega] at hv
      obtain ⟨G, hG⟩ : ∃ G, S d0 (bump c i) = G := ⟨_, rfl⟩
      obtain ⟨T, hTe⟩ : ∃ T, tw (c.sum + (d0 + 1)) = T := ⟨_, rfl⟩
      rw [hG, hTe] at hv
      rw [hTe] at hA hT hT0
      have hg0 : 0 < Nat.gcd G T := Nat.gcd_pos_of_pos_right _ hT0
      have hxT : G / Nat.gcd G T * T = G * (T / Nat.gcd G T) := by
        have d1 : Nat.gcd G T * (G / Nat.gcd G T) = G := Nat.mul_div_cancel' (Nat.gcd_dvd_left G T)
        have d2 : Nat.gcd G T * (T / Nat.gcd G T) = T := Nat.mul_div_cancel' (Nat.gcd_dvd_right G T)
        calc G / Nat.gcd G T * T = G / Nat.gcd G T * (Nat.gcd G T * (T / Nat.gcd G T)) := by rw [d2]
          _ = Nat.gcd G T * (G / Nat.gcd G T) * (T / Nat.gcd G T) := by rw [← Nat.mul_assoc, Nat.mul_comm (G / Nat.gcd G T)]
          _ = G * (T / Nat.gcd G T) := by rw [d1]
      have hGz : G < 2 ^ 1001 := by
        rw [← hG]
        exact S_lt (by rw [bump_len]; omega) (by omega)
      have hxz : G / Nat.gcd G T < 2 ^ 1001 := Nat.lt_of_le_of_lt (Nat.div_le_self _ _) hGz
      have hyz : T / Nat.gcd G T < 2 ^ 701 := Nat.lt_of_le_of_lt (Nat.div_le_self _ _) hT
      have hy0 : 0 < T / Nat.gcd G T := Nat.div_pos (Nat.gcd_le_right _ hT0) hg0
      have hUz2 : U < 2 ^ 3600 := Nat.lt_of_le_of_lt hUz (Nat.pow_lt_pow_right (by decide) (by omega))
      have hAz : A < 2 ^ 4700 := by
        have h1 : A ≤ A * T := Nat.le_mul_of_pos_right _ hT0
        have h2 : sumTo i (fun g => S d0 (bump c g)) ≤ S (d0 + 1) c := sumTo_mono (m := c.length) (by omega)
        have h3 : sumTo i (fun g => S d0 (bump c g)) * U ≤ 2 ^ 1001 * 2 ^ 3600 := Nat.mul_le_mul (by omega) (by omega)
        have h4 : (2 : Nat) ^ 1001 * 2 ^ 3600 < 2 ^ 4700 := by
          rw [← Nat.pow_add]
          exact Nat.pow_lt_pow_right (by decide) (by decide)
        omega
      obtain ⟨xg, hxg⟩ : ∃ xg, G / Nat.gcd G T = xg := ⟨_, rfl⟩
      obtain ⟨yg, hyg⟩ : ∃ yg, T / Nat.gcd G T = yg := ⟨_, rfl⟩
      have hv' : NumAt H6 v xg yg := by
        rw [← hxg, ← hyg]
        exact hv
      rw [hxg, hyg] at hxT
      rw [hxg] at hxz
      rw [hyg] at hyz hy0
      refine ⟨v, xg, yg, rfl, hv', fun H7 p7 s7 hp7 => ?_⟩
      refine ⟨p7, _, rfl, SqT.of hp7, rfl, _, _, rfl, _, _, rfl, rfl, ?_⟩
      refine ⟨_, rfl, _, rfl, _, _, rfl, rfl, wide_mul (a := 4700) (b := 701) (by omega) (by omega) (by decide) (by decide) (by decide), _, rfl, _, rfl, _, _, rfl, rfl, wide_mul (a := 1001) (b := 3600) (by omega) (by omega) (by decide) (by decide) (by decide), _, _, rfl, rfl,
        _, rfl, _, rfl, _, _, rfl, rfl, wide_mul (a := 3600) (b := 701) (by omega) (by omega) (by decide) (by decide) (by decide), _, _, rfl, ?_⟩
      refine ⟨A * yg + xg * U, U * yg, some (.int (0 + (i : Int))), some (.int (xg : Int)), some (.int (yg : Int)), ?_, (s5.trans s6).trans s7, Nat.mul_pos hU hy0, ?_, ?_⟩
      · have e1 : (A : Int) * (yg : Int) + (xg : Int) * (U : Int) = ((A * yg + xg * U : Nat) : Int) := by rw [Int.natCast_add, Int.natCast_mul, Int.natCast_mul]
        have e2 : (U : Int) * (yg : Int) = ((U * yg : Nat) : Int) := (Int.natCast_mul _ _).symm
        show [some (V.ref a), some (.int ((d0 + 1 : Nat) : Int)), some (.int ((A : Int) * (yg : Int) + (xg : Int) * (U : Int))), some (.int ((U : Int) * (yg : Int))), some (.int (0 + (i : Int))), some (.int (xg : Int)), some (.int (yg : Int))] = _
        rw [e1, e2]
      · rw [Nat.mul_add, Nat.pow_add]
        exact Nat.mul_le_mul hUz (by omega)
      · rw [hTe]
        have z := part_step hA hxT
        rw [← hG] at z
        exact z
    · rintro σ H1 ⟨A, U, y4, y5, y6, rfl, sm, hU, hUz, hA⟩
      rw [nV_len, Int.toNat_natCast] at hA hUz
      have hA' : A * tw (c.sum + (d0 + 1)) = S (d0 + 1) c * U := hA
      refine ⟨.ref a, rfl, _, rfl, .ref a, _, .lst (nV c), .int ((d0 + 1 : Nat) : Int), rfl, ⟨a, rfl, sm _ _ ha⟩, rfl, .inr (.inr (.inr ⟨c, d0 + 1, ⟨.inl rfl, hl1, hl5, hx1000⟩, rfl, hlo, hs, fun H2 v s2 hv => ?_⟩))⟩
      refine ⟨_, rfl, _, rfl, A, U, rfl, hU, Nat.lt_of_le_of_lt hUz (Nat.pow_lt_pow_right (by decide) (by omega)), fun H3 v3 s3 hv3 => ?_⟩
      obtain ⟨e1, e2⟩ := div_form hT0 hU hA'
      have hv3' : NumAt H3 v3 (S (d0 + 1) c / Nat.gcd (S (d0 + 1) c) (tw (c.sum + (d0 + 1)))) (tw (c.sum + (d0 + 1)) / Nat.gcd (S (d0 + 1) c) (tw (c.sum + (d0 + 1)))) := by
        rw [← e1, ← e2]
        exact hv3
      refine ⟨_, _, (hv.same s3).dp, hv3'.dp, numD_shaped _ _, numD_shaped _ _, ?_⟩
      rw [SeqAt.eqv_refl]
      · exact q _ ((sm.trans s2).trans s3)
      · exact SeqAt.canLay_of_shaped (numD_shaped _ _)
end
end K52
/-! An error that is caught and kept: it is tracked from the suite's end on; its class is asked, its fields are read. -/
namespace K52
open PySem L2
/-- at a: an exception of the class cls, its own dict at d -/
def ExK (cls : Value) (d a : Addr) : HO := .ext fun h => ∃ (oe : Obj) (vs : Array Value), h.get? a = some oe ∧ Zc cls (some d) oe ∧ oe.data = .fields vs
theorem exK_ok {P : Program} {w : World} {H : Hp} {h : Heap} {cls : Value} {d a : Addr} {oe : Obj} {vs : Array Value} (e : h.get? a = some oe) (z : Zc cls (some d) oe) (hd : oe.data = .fields vs) : ObjOk P w H h a (ExK cls d a) :=
  ⟨⟨oe, vs, e, z, hd⟩, ⟨oe, e⟩, fun h1 h2 ⟨o, v, q, r⟩ k => ⟨o, v, k o q, r⟩⟩
section
variable {X : Cx} {pins : List (Addr × Obj)} {σ : St} {H : Hp} {s s' : Shared} {a : Addr} {o : HO}
/-- an object that no entry, no pin, no frame and no cell knows is tracked from now on -/
theorem inv_track (I : Inv X pins σ H s) (ha : H a = none) (h0 : X.s_0.heap.get? a = none) (hp : ∀ p ∈ X.pn ++ pins, p.1 ≠ a) (hL : a ≠ X.env.locals) (hc : ∀ x c, X.env.cells.lookup x = some c → c ≠ a) (new : ObjOk X.prog X.w (upd H a o) s.heap a o) :
    Inv X pins σ (upd H a o) s := by
  have old : ∀ b u, H b = some u → upd H a o b = some u := fun b u e => (upd_ne (ne_of_none e ha)).trans e
  refine { ok := I.ok, os := I.os, bare := I.bare, loc := I.loc, cell := I.cell, len := I.len, base := ⟨I.base.keep, I.base.slot, fun b u e n x => ?_, I.base.there, fun b xs e => old _ _ (I.base.tups b xs e), fun b u v e => old _ _ (I.base.frzs b u v e), fun b ps e => ?_⟩,
           free := ?_, freeC := fun x c e => ?_, pin := fun p h => ?_, hok := fun b u e => ?_ }
  · have nb : b ≠ a := fun z => by
      rw [z, h0] at e
      cases e
    rw [upd_ne nb]
    exact I.base.free b u e n x
  · obtain ⟨m, e2⟩ := I.base.tbls b ps e
    exact ⟨m, old _ _ e2⟩
  · rw [upd_ne (Ne.symm hL)]
    exact I.free
  · rw [upd_ne (hc x c e)]
    exact I.freeC x c e
  · obtain ⟨q1, q2, q3⟩ := I.pin p h
    refine ⟨q1, ?_, q3⟩
    rw [upd_ne (hp p h)]
    exact q2
  · by_cases hb : b = a
    · subst hb
      rw [upd_same] at e
      cases e
      exact new
    · rw [upd_ne hb] at e
      exact (I.hok b u e).stay (fun _ _ _ q => q) (fun c q => old _ _ q) fun c xs q => old _ _ q
end
/-- what the clause wishes of an exception of the body: it is of the class named; the suite may keep it -/
def wKeep (K : PySem.W.Frag) (c : Value) (i : Nat) (ts : Addr → Value → Option Addr → TS) (N : St → Hp → Prop) : WX := fun cls d σ H =>
  PySem.W.exmOne K cls c = some true ∧ ∃ dd, d = some dd ∧ ∀ a, H a = none → ts a cls d { nx := fun σ' H' => H' a = none → N (σ'.set i none) (upd H' a (ExK cls dd a)), rt := fun _ _ => False } (σ.set i (some (.ref a))) H
section
variable {X : Cx} {x n : Str} {c : Value} {i : Nat} {body suite : List Stmt} {b0 : Stmt} {np pos pos' : Pos} {tb : WX → TS} {ts : Addr → Value → Option Addr → TS}
/-- try: body except x as n: suite; the body always raises; the error is tracked behind the suite -/
theorem ps_try_keep (hs : X.stack = X.env :: X.outer) (hf : X.env.frame = some X.env.locals) (hex : X.ex = []) (hN : X.N.Nodup) (hi : X.N[i]? = some n) (hln : X.env.kindOf n = some .local) (hc : Names X x c)
    (hb : ∀ (W : WX) (pn : List (Addr × Obj)) (xe : Value → Shared → Prop), Takes (X.tr pn xe) W → PSs (X.tr pn xe) body (tb W))
    (hsu : ∀ (a : Addr) (oe : Obj) (cls : Value) (d : Option Addr) (pn : List (Addr × Obj)), Zc cls d oe → (∃ vs, oe.data = .fields vs) → PSs (X.suite a ((a, oe) :: pn)) (b0 :: suite) (ts a cls d)) :
    PS X (.Try body [.ExceptHandler (some (.Name x np)) (some n) (b0 :: suite) pos'] [] [] pos) (fun D σ H => tb (wKeep X.K c i ts D.nx) { nx := fun _ _ => False, rt := fun _ _ => False } σ H) := by
  refine ⟨fun pins s σ H D I h => wpAny_Try_except ?_⟩
  have ok := I.ok
  have hfr : X.A.frames = some (X.env :: X.outer) := by rw [ok.frames, hs]
  refine wpAny_mono ((hb (wKeep X.K c i ts D.nx) (X.pn ++ pins) (fun e s1 => wpAny (model X.prog X.w) X.A (noteFrame e X.env) (fun _ s2 => wpAny (model X.prog X.w) X.A (setFlight e none) (fun _ s3 =>
    wpAny (model X.prog X.w) X.A (handleBy e X.env [.ExceptHandler (some (.Name x np)) (some n) (b0 :: suite) pos']) (SP X pins D) X.xe s3) X.xe s2) X.xe s1) ?took).run [] s σ H _ (I.toTry _) h) (fun f s1 hsp => ?_) fun e s1 he => he
  case took =>
    rintro u s' ⟨a, B, sI, pins', σ', H', cls, d, rfl, J', nb, up, sky, na, os, ag, hm, dd, rfl, hyes⟩
    have J : Inv X pins σ' H' sI := J'.ofTry ok
    rw [show (X.tr (X.pn ++ pins) _).stack = X.env :: X.outer from hs] at sky
    show wpAny (model X.prog X.w) X.A (noteFrame (.ref a) X.env) _ _ _
    refine Sky.land Zc.steady hfr hf sky fun h3 fl3 up3 => ?_
    have J3 : Inv X pins σ' H' { s' with heap := h3 } := J.landed nb fl3.1 (up.trans up3) os ag
    obtain ⟨oe3, vs3, he3, hz3, hd3⟩ := fl3.there
    -- a is no frame's; it was not there without the exception
    have nfr : a ∉ frs (X.env :: X.outer) := fun hm => by
      obtain ⟨_, o', e', hnf⟩ := fl3.2.2.1.mem hm
      rw [he3] at e'
      cases e'
      exact hnf _ hd3
    have nL : a ≠ X.env.locals := fun z => nfr (List.mem_filterMap.mpr ⟨X.env, List.mem_cons_self, by rw [hf, z]⟩)
    have nF : a ∉ X.fs := fun hm => by
      obtain ⟨e, he, q⟩ := List.mem_filterMap.mp hm
      exact nfr (List.mem_filterMap.mpr ⟨e, List.mem_cons_of_mem _ he, q⟩)
    have gI : sI.heap.get? a = none := by
      cases e : sI.heap.get? a with
      | none => rfl
      | some o =>
        have z := nb a o e (by rw [show (X.tr (X.pn ++ pins) _).stack = X.env :: X.outer from hs]; exact nfr)
        rw [fl3.2.1] at z
        cases z
    have g0 : X.s_0.heap.get? a = none := by
      cases e : X.s_0.heap.get? a with
      | none => rfl
      | some o =>
        obtain ⟨o', z⟩ := J.base.there a o e (by rw [hex]; exact fun z => nomatch z)
        rw [gI] at z
        cases z
    have gP : ∀ p ∈ X.pn ++ pins, p.1 ≠ a := fun p hp z => by
      have q := (J.pin p hp).1
      rw [z, gI] at q
      cases q
    have gC : ∀ y k, X.env.cells.lookup y = some k → k ≠ a := fun y k e z => by
      obtain ⟨v, o, ho, _⟩ := J.cell y k e
      rw [z, gI] at ho
      cases ho
    have S3 := J3.suite he3 hd3 na nL nF
    refine wpAny_handleBy_cons (codeAny_handlers_test ?_) (by intro q; cases q)
    have LT : PySem.W.Looks (model X.prog X.w) h3 (typeOf (.ref a)) cls := fun A Q E s k q => wpAny_typeOf_ref (k _ _ he3) (by rw [hz3.1]; exact q)
    have LM := PySem.W.exm_one (M := model X.prog X.w) (J3.kIn) LT hm
    have test : ∀ {Q : Value → Shared → Prop} {E : Value → Shared → Prop}, Q c { s' with heap := h3 } → wpAny (model X.prog X.w) (X.A.mark (some (.ref a))) (eval (.Name x np) X.env) Q E { s' with heap := h3 } := fun {Q E} q => by
      obtain ⟨hg, hdbg, hm | ⟨hm, hv, hnn⟩⟩ := hc
      · exact ld_glob (X := X.suite a ((a, oe3) :: (X.pn ++ pins))) S3 hg hm q hdbg
      · exact ld_blt (X := X.suite a ((a, oe3) :: (X.pn ++ pins))) S3 hg hm hv q hnn hdbg
    refine test (LM.here (codeAny_handlers_suite_as ?_))
    refine HandSPX.lands_againZ fl3 fun h4 fl4 up4 => ?_
    have J4 : Inv X pins σ' H' { s' with heap := h4 } := J.landed nb fl4.1 ((up.trans up3).trans up4) os ag
    obtain ⟨oe4, vs4, he4, hz4, hd4⟩ := fl4.there
    refine store_ok (X := X.suite a ((a, oe4) :: (X.pn ++ pins))) (v := .ref a) (J4.suite he4 hd4 na nL nF) hN hi (.inl hln) rfl (fun s5 S5 => ?_) (.inr hln)
    refine wpAny_mono ((hsu a oe4 cls (some dd) (X.pn ++ pins) hz4 ⟨_, hd4⟩).run [] s5 _ H' _ S5 (hyes a na)) (fun f s6 hsp => ?_) (fun _ _ z => False.elim z)
    cases f with
    | next =>
      obtain ⟨σ6, H6, S6, q6⟩ := hsp
      obtain ⟨e6, n6, _⟩ := S6.pin (a, oe4) (List.mem_append_left _ List.mem_cons_self)
      have K6 : Inv X pins σ6 (upd H6 a (ExK cls dd a)) s6 := inv_track (S6.unsuite ok) n6 g0 gP nL gC (exK_ok e6 hz4 hd4)
      exact gone_ok K6 hN hi hln fun s7 J7 => ⟨_, _, J7, q6 n6⟩
    | brk => obtain ⟨_, _, _, z⟩ := hsp; exact z.elim
    | cont => obtain ⟨_, _, _, z⟩ := hsp; exact z.elim
    | ret u => obtain ⟨_, _, _, _, _, z⟩ := hsp; exact z.elim
  · -- the body's own end: there is none
    cases f with
    | next => obtain ⟨_, _, _, z⟩ := hsp; exact z.elim
    | ret u => obtain ⟨_, _, _, _, _, z⟩ := hsp; exact z.elim
    | brk => obtain ⟨_, _, _, z⟩ := hsp; exact z.elim
    | cont => obtain ⟨_, _, _, z⟩ := hsp; exact z.elim
end
/-! ### the kept error's class and fields -/
section
open PySem.W
variable {prog : Program} {w : World} {A : Around} {E : Value → Shared → Prop} {s : Shared} {K : Frag} {x D : Addr} {ox : Obj} {od : Option Obj}
theorem find_class {g a : Value} {name : Str} (hc : (clsIn K D).isSome = true) (ha : findIn K (.ref D) name = some (some a)) (hg : specialIn K a "__get__" = some (some g)) (ht : takesIn K a = some true) : findObj K D od name = some (.bind g a) := by
  obtain ⟨cd, hc⟩ := Option.isSome_iff_exists.mp hc
  unfold findObj
  rw [hc, Option.bind_some, ha, Option.bind_some]
  simp [hg, ht]
/-- e.__class__ of an error that has a dict of its own -/
theorem class_of_err {Q : Option Value → Shared → Prop} (C : ExcC K D) (X : K.In s.heap) (I : InstAt s.heap x ox D od) (h : Q (some (.ref D)) { s with toks := s.toks + 1 }) : wpAny (model prog w) A (getAttr? (.ref x) "__class__") Q E s := by
  have hcl : (clsIn K D).isSome = true := by
    obtain ⟨cd, hc, _⟩ := any_some C.hd
    rw [hc]
    rfl
  have hf : findObj K D od "__class__" = some (.bind (.builtin "getset_descriptor.__get__") (.builtin "object.__class__")) := find_class hcl C.ha C.hn C.ht
  obtain ⟨hp, g, d, t, os⟩ := s
  have lt := I.type (M := model prog w)
  have lga := looks_findIn (M := model prog w) X C.hg
  have lgt := looks_findIn (M := model prog w) X C.hk
  have lf := looks_find (M := model prog w) X I hf
  have sub : Looks (model prog w) hp (isInstance (.ref x) (.type "BaseException")) true := lt.andThen (looks_subIn X C.hs)
  have z0 : (false && onTheHeap (Value.builtin "BaseException.__getattribute__")) = false := rfl
  have z1 : (onTheHeap (Value.ref D) && Value.builtin "BaseException.__getattribute__" == Value.builtin "object.__getattribute__") = false := by
    have z : (Value.builtin "BaseException.__getattribute__" == Value.builtin "object.__getattribute__") = false := by decide +kernel
    rw [z, Bool.and_false]
  unfold getAttr? getAttrBy? getAttrBy
  refine wpAny_bind (wpAny_mkText (wpAny_bind (wpAny_attempt (wpAny_holding (wpAny_bind (lt.at (wpAny_bind (lga.at ?_))))))))
  show wpAny _ _ (if (onTheHeap (Value.ref D) && Value.builtin "BaseException.__getattribute__" == Value.builtin "object.__getattribute__") = true then _ else _) _ _ _
  rw [if_neg (by rw [z1]; exact Bool.false_ne_true)]
  unfold getAttrByItsOwn hookBefore
  refine wpAny_bind ?_
  rw [if_pos (show onTheHeap (Value.ref D) = true from rfl)]
  refine lgt.at (wpAny_bind (wpAny_attempt (wpAny_holding ?_)))
  unfold callGetattribute
  rw [if_neg (by rw [z0]; exact Bool.false_ne_true)]
  unfold boundAndCalled
  rw [PySem.F.excAttr_ValueError.ga.bind (.ref x)]
  refine wpAny_bind (wpAny_pure ?_)
  show wpAny _ _ (call (.builtin "BaseException.__getattribute__") [.ref x, .str "__class__" t]) _ _ _
  refine wpAny_call (codeAny_call_builtin PySem.F.excAttr_ValueError.ga.plain PySem.F.entry_bexc_ga ?_)
  refine @check_slot (model prog w) _ _ ⟨hp, g, d, t + 1, os⟩ "BaseException.__getattribute__" "BaseException" "__getattribute__" (.ref x) [.str "__class__" t] [] _ (by decide +kernel) (by decide +kernel) sub (PySem.F.args_bexc_ga (.ref x) (.str "__class__" t)) ?_
  unfold Builtin.«object.__getattribute__»
  refine wpAny_bind (wpAny_of_eq (a := ((Value.ref x : Value), [Value.str "__class__" t])) (by first | rfl | (simp only [slotArgs]; rfl)) ?_)
  refine wpAny_bind (wpAny_pure (wpAny_bind (lt.at (wpAny_bind (lf.at ?_)))))
  show wpAny _ _ (holding [Value.builtin "object.__class__"] (call (.builtin "getset_descriptor.__get__") [.builtin "object.__class__", .ref x, .ref D]) >>= ret) _ _ _
  refine wpAny_bind (wpAny_holding (wpAny_call (class_get (s := ⟨hp, g, d, t + 1, os⟩) (ox := ox) (od := od) X I C.hm ?_)))
  refine wpAny_pure ?_
  show wpAny _ _ (handedOut (.ref D)) _ _ _
  rw [handedOut_of (v := .ref D) rfl]
  first
    | exact wpAny_pure (wpAny_pure h)
    | exact wpAny_pure h
    | exact wpAny_pure (wpAny_bind (wpAny_pure (wpAny_pure h)))
theorem kit_err (C : ExcC K D) : KitX K (.ref x) (.ref D) (fun h => ∃ ox od, InstAt h x ox D od) where
  ty := fun _ _ _ ⟨_, _, I⟩ => I.type
  it := fun _ _ X _ => by
    obtain ⟨cd, hc, _⟩ := any_some C.hd
    unfold clsIn at hc
    split at hc
    · rename_i ho
      intro A' Q' E' s' k q
      unfold isType loadHead
      exact wpAny_bind (wpAny_loadPart (k _ _ (X _ _ ho)) (wpAny_pure q))
    · cases hc
  ne := fun h tp dd its n sl X htp => by
    obtain ⟨cd, hc, _⟩ := any_some C.hd
    refine Bool.eq_false_iff.mpr fun q => ?_
    obtain rfl : D = tp := Value.ref.inj (beq_iff_eq.mp q)
    unfold clsIn at hc
    split at hc
    · rename_i ho
      cases (X _ _ ho).symm.trans htp
    · cases hc
  ca := fun X ⟨_, _, I⟩ k => class_of_err C X I k
end
section
variable {X : Cx} {pins : List (Addr × Obj)} {σ : St} {H : Hp} {s : Shared}
/-- a kept error as it stands -/
theorem exK_at (I : Inv X pins σ H s) {D d a : Addr} {fs : List (Str × V)} (ha : H a = some (ExK (.ref D) d a)) (hd : H d = some (.xd fs)) : ∃ (oe od : Obj) (mA : Str → Option Value), PySem.W.InstAt s.heap a oe D (some od) ∧ (∀ f, PySem.W.lookIn f od = some (mA f)) ∧ ∀ f, RelO (fs.lookup f) (mA f) := by
  have h1 : ObjOk X.prog X.w H s.heap a (.ext fun h => ∃ (oe : Obj) (vs : Array Value), h.get? a = some oe ∧ Zc (.ref D) (some d) oe ∧ oe.data = .fields vs) := I.hok a _ ha
  obtain ⟨⟨oe, vs, e, z, hv⟩, _⟩ := h1
  have h2 : ObjOk X.prog X.w H s.heap d (.xd fs) := I.hok d _ hd
  obtain ⟨mA, hns, hr⟩ := h2
  obtain ⟨od, ho, hl⟩ := lookIn_ns hns
  exact ⟨oe, od, mA, ⟨e, z.1, by unfold PySem.W.notCls; rw [hv] <;> rfl, by rw [z.2]; exact ho⟩, hl, hr⟩
end
/-- isinstance(e, c), e a kept error -/
def rIsK (K : PySem.W.Frag) : List V → Hp → VK → Prop := fun xs H Q => ∃ (a D d : Addr) (fs : List (Str × V)) (c : V) (cv : Value) (b : Bool), xs = [.ref a, c] ∧ H a = some (ExK (.ref D) d a) ∧ H d = some (.xd fs) ∧ (∀ u, RelV c u → u = cv) ∧ ExcC K D ∧ PySem.W.kitOne K (.ref D) cv = some b ∧ Q (.bl b) H
/-- e.n, e a kept error -/
def tXk (K : PySem.W.Frag) (n : Str) (te : TE) : TE := fun σ H Q => te σ H fun x H1 => ∃ (a D d : Addr) (fs : List (Str × V)) (v : V), x = .ref a ∧ XfC K D ∧ PySem.W.findIn K (.ref D) n = some none ∧ H1 a = some (ExK (.ref D) d a) ∧ H1 d = some (.xd fs) ∧ fs.lookup n = some v ∧ Q v H1
section
variable {X : Cx}
theorem call_isK : CallR X (.builtin "isinstance") (rIsK X.K) := by
  intro pins s σ H xs us Q I r h
  obtain ⟨a, D, d, fs, c, cv, b, rfl, ha, hd, hcv, C, e, q⟩ := h
  cases r with
  | cons rx rr =>
    cases rr with
    | cons rt rr =>
      cases rr
      cases rx
      obtain rfl := hcv _ rt
      obtain ⟨oe, od, mA, J, _⟩ := exK_at I ha hd
      exact PySem.W.kia_one (kit_err C) I.kIn ⟨_, _, J⟩ e (fun z => nomatch z) fun tk => ⟨.bl b, H, I.kept (t' := tk) fun _ _ z => z, rfl, q⟩
theorem pe_xk {e : Expr} {te : TE} {pos : Pos} {n : Str} (he : PE X e te) (hb : attributeBase e n X.env (eval e X.env) = eval e X.env := by rfl) : PE X (.Attribute e n pos) (tXk X.K n te) := by
  refine ⟨fun pins s σ H Q I h => attr_of hb (thn (he.run pins s σ H _ I h) fun u s1 hh => ?_)⟩
  obtain ⟨x, H1, I1, rx, a, D, d, fs, v, ex, T, hno, ha, hd, l, q⟩ := hh
  subst ex
  obtain rfl : u = Value.ref a := rx
  obtain ⟨oe, od, mA, J, hl, hr⟩ := exK_at I1 ha hd
  obtain ⟨u, hu, ru⟩ := RelO.some_of (v := v) (o := mA n) (by rw [← l]; exact hr n)
  exact HandSPX.exc_get I1.kIn J T.ga T.gg T.exC (PySem.W.findObj_own T.hdC hno rfl (by rw [hl, hu])) (handed_of ru) ⟨v, H1, I1.tok _, ru, q⟩
end
end K52
/-! _law_heard: what it makes of the thing that it calls. -/
namespace K52
open PySem L2
/-- the two errors' classes and their base, as _law_heard asks of them -/
structure HearC (K : PySem.W.Frag) (mg : Str → Option Value) (CB CT CP : Addr) : Prop where
  gP : mg "PriceError" = some (.ref CP)
  gB : mg "BadNumber" = some (.ref CB)
  gT : mg "TooMany" = some (.ref CT)
  isi : mg "isinstance" = none
  mB : PySem.W.exmOne K (.ref CB) (.ref CP) = some true
  mT : PySem.W.exmOne K (.ref CT) (.ref CP) = some true
  kTT : PySem.W.kitOne K (.ref CT) (.ref CT) = some true
  kBT : PySem.W.kitOne K (.ref CB) (.ref CT) = some false
  kBB : PySem.W.kitOne K (.ref CB) (.ref CB) = some true
  eB : ExcC K CB
  eT : ExcC K CT
  xB : XfC K CB
  xT : XfC K CT
  nP : PySem.W.findIn K (.ref CB) "part" = some none
  nW : PySem.W.findIn K (.ref CT) "what" = some none
  nM : PySem.W.findIn K (.ref CT) "most" = some none
/-- the error that is wished for, and what is handed back for it -/
def EchH (CB CT : Addr) (Q : VK) : XK := fun cls d H =>
  (cls = .ref CB ∧ ∃ (dd : Addr) (x : Str), d = some dd ∧ H dd = some (.xd [(("part" : Str), .str x)]) ∧ ∀ (H' : Hp) (t : Addr), Same H H' → H' t = some (.tup [.str "number", .str x]) → Q (.ref t) H') ∨
  (cls = .ref CT ∧ ∃ (dd : Addr) (x : Str) (n : Int), d = some dd ∧ H dd = some (.xd [(("most" : Str), .int n), (("what" : Str), .str x)]) ∧ ∀ (H' : Hp) (t : Addr), Same H H' → H' t = some (.tup [.str "many", .str x, .int n]) → Q (.ref t) H')
def TTh (CB CT : Addr) : (XK → Hp → VK → Prop) → Hp → VK → Prop := fun tl H Q => tl (EchH CB CT Q) H (fun _ _ => False)
theorem takes_len {X : Cx} {W : WX} (t : Takes X W) : Takes X (fun cls d σ H => σ.length = X.N.length → W cls d σ H) := fun u s' ⟨a, B, sI, pins, σ, H, cls, d, e, I, nb, up, sky, na, os, ag, w⟩ =>
  t u s' ⟨a, B, sI, pins, σ, H, cls, d, e, I, nb, up, sky, na, os, ag, w I.len⟩
theorem scHeard : FnScope ["_law_ask", "_law_caught", "error"] ["_law_ask"] (defScope sHeard) := ⟨rfl, rfl, rfl, by decide +kernel, rfl, by decide +kernel, by decide +kernel⟩
abbrev NH : List Str := ["_law_ask", "_law_caught", "error"]
theorem heard_gives {X : Cx} {g : Addr} {cdg : Value} {CB CT CP : Addr} {q : Str} (T : HearC X.K X.mg CB CT CP) :
    LamX.GivesTo X NH "_law_heard" (defScope sHeard) g cdg (defBody sHeard) "_law_ask" q (TTh CB CT) := by
  intro f c' s H Q tl act hc h
  have tB : Names (cxOf C8.CX0 X.prog X.w X.K X.mg X.base NH "_law_heard" (defScope sHeard) g cdg X.A X.stack s H C8.E0).nox "PriceError" (.ref CP) := ⟨rfl, by decide, .inl T.gP⟩
  refine ⟨_, pss_cons (ps_set (i := 1) scHeard.nd rfl (.inl rfl) pe_non)
    (pss_cons (ps_try_keep (X := (cxOf C8.CX0 X.prog X.w X.K X.mg X.base NH "_law_heard" (defScope sHeard) g cdg X.A X.stack s H C8.E0).nox) (i := 2) (n := "error")
        (tb := fun W D σ H1 => ∃ Ech : XK, (∀ cls d σ' H', Ech cls d H' → σ'.length = 3 → W cls d σ' H') ∧ σ[0]? = some (some (.ref f)) ∧ H1 c' = some (LamX.CodeO c' q) ∧ tl Ech H1 (fun _ H2 => D.nx σ H2))
        (ts := fun a cls d => tAsg (tVar 2) (gName 1)) rfl rfl rfl scHeard.nd rfl rfl tB (fun W pn xe tk => ?body) (fun a oe cls d pn _ _ => pss_one (ps_set (i := 1) scHeard.nd rfl (.inl rfl) (pv 2))))
    (pss_cons (ps_if (pt_val (pe_callB call_isK (by rfl) T.isi PyProof.Rows.boot_isinstance (pa_cons (pv 1) (pa_cons (pe_glob (v := .ref CT) (by rfl) T.gT rfl) pa_nil))))
        (pss_one (ps_ret (pe_tup (pa_cons pe_str (pa_cons (pe_xk (pv 1)) (pa_cons (pe_xk (pv 1)) pa_nil)))))) pss_nil)
    (pss_cons (ps_if (pt_val (pe_callB call_isK (by rfl) T.isi PyProof.Rows.boot_isinstance (pa_cons (pv 1) (pa_cons (pe_glob (v := .ref CB) (by rfl) T.gB rfl) pa_nil))))
        (pss_one (ps_ret (pe_tup (pa_cons pe_str (pa_cons (pe_xk (pv 1)) pa_nil))))) pss_nil)
    (pss_one (ps_ret (pe_ifExp (pt_cmp (pc_isN (pv 1))) pe_non (pe_tup (pa_cons pe_str (pa_cons pe_str pa_nil))))))))), ?_⟩
  case body =>
    refine ⟨fun pins s' σ H1 D I h' => ?_⟩
    obtain ⟨Ech, hW, h1, h2, h3⟩ := h'
    have hp := act (fun cls d σ H => σ.length = 3 → W cls d σ H) pn xe Ech
    exact (pss_one (ps_expr (hp _ _ (takes_len tk) hW))).run pins s' σ H1 D I ⟨h1, h2, h3⟩
  · refine ⟨EchH CB CT Q, fun cls d σ' H' e hl => ?_, rfl, hc, h⟩
    obtain ⟨x0, x1, x2, rfl⟩ : ∃ x0 x1 x2, σ' = [x0, x1, x2] := by
      match σ', hl with
      | [x0, x1, x2], _ => exact ⟨x0, x1, x2, rfl⟩
    rcases e with ⟨rfl, dd, x, rfl, hd, k⟩ | ⟨rfl, dd, x, n, rfl, hd, k⟩
    · refine ⟨T.mB, dd, rfl, fun a ha => ⟨_, rfl, fun n2 => ?_⟩⟩
      have s2 := same_upd (o := ExK (.ref CB) dd a) ha
      have ea : upd H' a (ExK (.ref CB) dd a) a = some (ExK (.ref CB) dd a) := upd_same
      have ed := s2 _ _ hd
      refine ⟨.ref a, rfl, a, CB, dd, _, .ref CT, .ref CT, false, rfl, ea, ed, fun u r => r, T.eB, T.kBT, _, rfl, iteF ?_⟩
      refine ⟨.ref a, rfl, a, CB, dd, _, .ref CB, .ref CB, true, rfl, ea, ed, fun u r => r, T.eB, T.kBB, _, rfl, iteT ?_⟩
      refine ⟨.ref a, rfl, a, CB, dd, _, .str x, rfl, T.xB, T.nP, ea, ed, by simp [List.lookup], by show 2 ≤ sizeLine; decide, fun t ht => ?_⟩
      exact k _ t (s2.trans (same_upd ht)) upd_same
    · refine ⟨T.mT, dd, rfl, fun a ha => ⟨_, rfl, fun n2 => ?_⟩⟩
      have s2 := same_upd (o := ExK (.ref CT) dd a) ha
      have ea : upd H' a (ExK (.ref CT) dd a) a = some (ExK (.ref CT) dd a) := upd_same
      have ed := s2 _ _ hd
      have hwm : List.lookup ("what" : Str) [(("most" : Str), V.int n), (("what" : Str), V.str x)] = some (.str x) := by
        have z : (("what" : Str) == ("most" : Str)) = false := by decide +kernel
        simp [List.lookup, z]
      refine ⟨.ref a, rfl, a, CT, dd, _, .ref CT, .ref CT, true, rfl, ea, ed, fun u r => r, T.eT, T.kTT, _, rfl, iteT ?_⟩
      refine ⟨.ref a, rfl, a, CT, dd, _, .str x, rfl, T.xT, T.nW, ea, ed, hwm, .ref a, rfl, a, CT, dd, _, .int n, rfl, T.xT, T.nM, ea, ed, by simp [List.lookup], by show 3 ≤ sizeLine; decide, fun t ht => ?_⟩
      exact k _ t (s2.trans (same_upd ht)) upd_same
end K52
/-! A lambda with one parameter that has a default, handed to a def that calls it with nothing. -/
namespace K52
open PySem PySem.Spec PyProof.Rows L2
/-- its names: parameters that the maker does not name, captured ones, globals -/
structure LamN (N : List Str) (sc scope : Scope) : Prop where
  kind : scope.kind = .function
  co : scope.isCoroutine = false
  gen : scope.isGenerator = false
  cel : ∀ y ∈ scope.names, y.2 ≠ .cell
  par : ∀ y ∈ scope.names, y.2 = .local → y.1 ∉ N
  free : ∀ y ∈ scope.names, y.2 = .free → sc.names.lookup y.1 = some .cell ∨ sc.names.lookup y.1 = some .free
def lamNB (N : List Str) (sc scope : Scope) : Bool :=
  (decide (scope.kind = .function) && !scope.isCoroutine && !scope.isGenerator) && scope.names.all fun y => (!decide (y.2 = .cell)) && ((!decide (y.2 = .local) || !decide (y.1 ∈ N)) && (!decide (y.2 = .free) || (decide (sc.names.lookup y.1 = some .cell) || decide (sc.names.lookup y.1 = some .free))))
theorem lamN_by {N : List Str} {sc scope : Scope} (h : lamNB N sc scope = true) : LamN N sc scope := by
  unfold lamNB at h
  simp only [Bool.and_eq_true, Bool.or_eq_true, Bool.not_eq_true', decide_eq_true_eq, decide_eq_false_iff_not, List.all_eq_true] at h
  obtain ⟨⟨⟨h1, h2⟩, h3⟩, h4⟩ := h
  refine ⟨h1, h2, h3, fun y hy => (h4 y hy).1, fun y hy e => ?_, fun y hy e => ?_⟩
  · rcases (h4 y hy).2.1 with z | z
    · exact absurd e z
    · exact z
  · rcases (h4 y hy).2.2 with z | z
    · exact absurd e z
    · exact z
theorem LamN.has {X : Cx} {scope : Scope} (L : LamN X.N X.env.scope scope) (ok : X.Ok) : ∀ y ∈ scope.names, y.2 = .free → ∃ c, X.env.cells.lookup y.1 = some c := fun y hy e =>
  ok.has _ ((L.free y hy e).elim .inl .inr)
section
variable {X : Cx} {pins : List (Addr × Obj)} {σ : L2.St} {H HZ : Hp} {s s1 : Shared}
/-- its body's state, entered -/
theorem lamD_start {A : Around} {outer : List Env} {E : XK} {scope : Scope} {f c' : Addr} {h1 : Heap} {tk : Nat} {m : Str → Option Value} (I : Inv X pins σ H s) (L : LamN X.N X.env.scope scope) (e0 : Env0 X.prog X.w X.K X.mg X.base A outer s1 HZ) (hd : A.handled = none)
    (un : Un (frs X.stack) [] H HZ s.heap s1.heap) (hns : h1.Ns s1.heap.objs.size m) (kp : ∀ b o, s1.heap.get? b = some o → h1.get? b = some o) :
    Inv (LamX.lamCx X A outer s1 HZ E scope f c') [] σ HZ { s1 with heap := h1, toks := tk } := by
  have captured := L.has I.ok
  -- the lambda's cells are the maker's
  have sub : ∀ {y c}, (cloFrom X.env.cells scope.names []).lookup y = some c → X.env.cells.lookup y = some c := fun {y c} e => by
    rcases cloFrom_mem (PySem.mem_of_lookup e) with z | ⟨z1, z2⟩
    · cases z
    · obtain ⟨c1, hc1⟩ := captured _ z1 rfl
      have hc1 : X.env.cells.lookup y = some c1 := hc1
      have z3 : c = c1 := by
        rw [z2, hc1]
        rfl
      rw [z3]
      exact hc1
  have look : ∀ {y}, scope.names.lookup y = some .free → ∃ c, (cloFrom X.env.cells scope.names []).lookup y = some c := fun {y} hl => by
    have hy : (y, NameKind.free) ∈ scope.names := PySem.mem_of_lookup hl
    exact mem_lookup (cloFrom_has (cells := X.env.cells) (acc := []) hy)
  have cellK : ∀ {c : Addr} {v : Option Value}, H c = none → s.heap.IsCell c v → h1.IsCell c v := fun {c v} n ⟨o, ho, hdv⟩ => by
    obtain ⟨sl, q⟩ := un.any ho n (by simp)
    exact ⟨_, kp _ _ q, hdv⟩
  have noex : ∀ b : Addr, b ∉ (LamX.lamCx X A outer s1 HZ E scope f c').ex := fun b z => nomatch (show b ∈ ([] : List Addr) from z)
  refine { os := rfl, bare := e0.bare, base := Un.kept kp, free := e0.hok.fresh (Nat.le_refl _), hok := e0.hok.kept kp, len := I.len, ok := ?ok, loc := ⟨m, hns, fun i y v e1 e2 e3 => ?loc⟩, cell := fun y c e => ?cell, freeC := fun y c e => ?fc,
           pin := fun q hq => nomatch (show q ∈ ([] : List (Addr × Obj)) from hq) }
  case ok =>
    refine { mod := e0.mod, kind := L.kind, glob := rfl, blt := rfl, above := Nat.le_refl _, inj := fun y z c e1 e2 => I.ok.inj y z c (sub e1) (sub e2), has := fun y hy => ?_, cab := fun y c z _ => Bool.noConfusion (show false = true from z), hd := fun _ => hd,
             frames := Around.frames_deeper e0.frames, stk := .inr ⟨rfl, rfl⟩, exf := fun b z => absurd z (noex b), bs := e0.bs, bsz := e0.bsz, noex := fun b _ _ => noex b, exfs := fun b z => absurd z (noex b), funs := e0.funs, frf := e0.frf }
    have hy : scope.names.lookup y = some .cell ∨ scope.names.lookup y = some .free := hy
    rcases hy with hy | hy
    · exact absurd rfl (L.cel _ (PySem.mem_of_lookup hy))
    · exact look hy
  case loc =>
    have e3 : Vis scope y := e3
    rcases e3 with k | k | k
    · exact absurd (List.mem_of_getElem? (show X.N[i]? = some y from e1)) (L.par _ (PySem.mem_of_lookup k) rfl)
    · exact absurd rfl (L.cel _ (PySem.mem_of_lookup k))
    · obtain ⟨m0, hn, hl⟩ := I.loc
      have hvis : Vis X.env.scope y := .inr (L.free _ (PySem.mem_of_lookup k) rfl)
      obtain ⟨u, r, q⟩ := hl i y v e1 e2 hvis
      obtain ⟨c2, h2⟩ := look k
      refine ⟨u, r, .inr ⟨.inr k, c2, h2, ?_⟩⟩
      have k1 := sub h2
      rcases q with ⟨k', _⟩ | ⟨_, c3, k3, z⟩
      · have k' : X.env.scope.names.lookup y = some .local := k'
        rcases L.free _ (PySem.mem_of_lookup k) rfl with k2 | k2 <;> rw [show X.env.scope.names.lookup y = _ from k2] at k' <;> cases k'
      · rw [k1] at k3
        cases k3
        exact cellK (I.freeC y _ k1) z
  case cell =>
    obtain ⟨u, z⟩ := I.cell y c (sub e)
    exact ⟨u, cellK (I.freeC y c (sub e)) z⟩
  case fc =>
    obtain ⟨v, o, ho, _⟩ := I.cell y c (sub e)
    exact un.free c o ho (I.freeC y c (sub e)) (by simp)
/-- the lambda object as it was made: its default's tuple at T -/
structure LamAt (X : Cx) (H : Hp) (h : Heap) (params : Arguments) (body : Expr) (scope : Scope) (f T c' : Addr) (dv : List Value) (doc pm ctv : Value) : Prop where
  obj : h.get? f = some (PySem.W.kdv_obj "<lambda>" (X.env.qual ++ "<lambda>") params (.expr body) scope (cloFrom X.env.cells scope.names []) (.ref T) doc pm c' ctv)
  objN : H f = none
  objF : f ∉ frs X.stack
  tup : h.get? T = some (PySem.W.kdv_tup dv)
  tupN : H T = none
  tupF : T ∉ frs X.stack
/-- how it binds, called with nothing -/
def LamB (params : Arguments) (body : Expr) (scope : Scope) (dv : List Value) (binds : List (Str × Value)) : Prop := (∀ y ∈ binds, scope.names.lookup y.1 = some .local) ∧
  ∀ (q : Str) (cl : List (Str × Addr)) (T : Addr) (doc pm cv ctv : Value), ∃ k, bindArgs (PySem.W.kdv_fn "<lambda>" q params (.expr body) scope cl (.ref T) doc pm cv ctv) ⟨[], []⟩ = seqItems? (.ref T) >>= k ∧ k (some dv.toArray) = pure binds
/-- x(), in the def that got the lambda -/
theorem pe_actD {CXg : CXT} {Eg : XK} {Ng : List Str} {qg : Str} {sg : Scope} {g f T c' : Addr} {cdg doc pm ctv : Value} {params : Arguments} {body : Expr} {scope : Scope} {dv : List Value} {binds : List (Str × Value)} {k i : Nat} {a : Str} {pn : List (Addr × Obj)} {xe : Value → Shared → Prop} {W : WX} {E : XK} {tb : TE} {p1 p2 : Pos}
    (I : Inv X pins σ H s) (L : LamN X.N X.env.scope scope) (hf : LamAt X H s.heap params body scope f T c' dv doc pm ctv) (hbind : LamB params body scope dv binds)
    (tk : Takes ((cxOf CXg X.prog X.w X.K X.mg X.base Ng qg sg g cdg X.A X.stack s H Eg).tr pn xe) W) (hW : ∀ cls d σ' H', E cls d H' → W cls d σ' H') (hr : Room (k + 1) (X.A.deeper (envOfC qg sg s.heap.objs.size g cdg)))
    (hbody : ∀ (A : Around) (outer : List Env) (s : Shared) (H : Hp), Room k (A.deeper (LamX.lamEnv X scope s.heap.objs.size f c')) → PE (LamX.lamCx X A outer s H E scope f c') body tb)
    (hN : Ng[i]? = some a) (hv : Vis sg a) (hd : (a == ("__debug__" : Str)) = false := by decide) (hcd : (a == ("__classdict__" : Str)) = false := by decide) :
    PE ((cxOf CXg X.prog X.w X.K X.mg X.base Ng qg sg g cdg X.A X.stack s H Eg).tr pn xe) (.Call (.Name a p1) [] [] p2)
      (fun σZ HZ Q => σZ[i]? = some (some (.ref f)) ∧ HZ c' = some (LamX.CodeO c' (X.env.qual ++ "<lambda>")) ∧ tb σ HZ Q) := by
  refine ⟨fun pinsZ sZ σZ HZ Q IZ ⟨hs, hc, ht⟩ => ?_⟩
  refine wpAny_Call_Name_kw (thn ((pe_var (pos := p1) (i := i) hN hv hd hcd).run pinsZ sZ σZ HZ (fun v H1 => v = .ref f ∧ H1 = HZ) IZ ⟨.ref f, hs, rfl, rfl⟩) fun u s1 ⟨v, H1, I1, r1, q1⟩ => ?_)
  obtain ⟨rfl, rfl⟩ := q1
  obtain rfl : u = Value.ref f := r1
  have noex : ∀ b : Addr, b ∉ ([] : List Addr) := fun b z => nomatch z
  have of1 := I1.base.keep f _ hf.obj hf.objN hf.objF (noex f)
  have tp1 := I1.base.keep T _ hf.tup hf.tupN hf.tupF (noex T)
  refine PySem.W.callWith_F0 ⟨_, _, _, _, of1⟩ ?_
  have un : Un (frs X.stack) [] H H1 s.heap s1.heap := I1.base
  obtain ⟨⟨oc, vs, t, hoc, hdc, hvc⟩, _, _⟩ := I1.hok c' _ hc
  obtain ⟨hloc, hkb⟩ := hbind
  obtain ⟨kb, kb1, kb2⟩ := hkb (X.env.qual ++ "<lambda>") (cloFrom X.env.cells scope.names []) T doc pm (.ref c') ctv
  have rc : codeAny (model X.prog X.w) (X.A.deeper (envOfC qg sg s.heap.objs.size g cdg)) (.call (.ref f) ⟨[], []⟩) (CR (L2.CX X.prog X.w) (envOfC qg sg s.heap.objs.size g cdg :: X.stack) X.prog X.w H1 s1 Q E) s1 := by
    refine PySem.W.kla_callFunE hr.depth of1 rfl L.co L.gen rfl ⟨c', oc, vs, t, rfl, hoc, hdc, hvc⟩ ?_
    refine BindsTo.of_defaults (T := T) rfl tp1 rfl kb1 kb2 _ _ _ _ ?_
    refine wpAny_newFunctionEnv (fun y hy => L.cel y hy) hloc (fun h1 hns hsb => ⟨I1.nolimit.fresh _ hsb, ?_⟩) L.kind
    show codeAny _ _ (.expr body (LamX.lamEnv X scope s1.heap.objs.size f c')) _ _
    have J := lamD_start (A := X.A.deeper (envOfC qg sg s.heap.objs.size g cdg)) (E := E) (f := f) (c' := c') (tk := s1.toks + binds.length) I L I1.env0 hr.hd un hns fun b o e => hsb.extBut b o (Nat.ne_of_lt (Heap.lt_size e)) (Heap.get?_push_of_some _ e)
    refine PySem.W.kla_codeExpr (wpAny_mono ((hbody _ _ s1 H1 (hr.deeper _)).run [] _ _ H1 Q J ht) (fun v s' hq => ?_) fun e s' hq => hq)
    obtain ⟨u', H', J', rv, q⟩ := hq
    exact ⟨u', H', J'.os, J'.bare, J'.base, J'.hok, rv, q⟩
  have hx : Passes (L2.CX X.prog X.w) ((cxOf CXg X.prog X.w X.K X.mg X.base Ng qg sg g cdg X.A X.stack s H Eg).tr pn xe) E := passes_call tk hW
  refine wpAny_call (codeAny_mono rc fun r s' hq => ?_)
  cases r with
  | error e => exact hx pinsZ σZ H1 s1 e s' I1 hq
  | ok fl =>
    cases fl with
    | ret u => exact I1.after hq
    | next => exact False.elim hq
    | brk => exact False.elim hq
    | cont => exact False.elim hq
end
section
variable {X : Cx} {pins : List (Addr × Obj)} {σ : L2.St} {H : Hp} {s : Shared}
/-- lambda x=z: body, made: its default's tuple is new, its code object is new, or found in the table -/
theorem lam_makeD {Ts : List (Addr × Str)} {c P : Addr} {params : Arguments} {body : Expr} {scope : Scope} {pos : Pos} {z : Int} {jc : Nat} {pc : Pos} {E : Value → Shared → Prop} {Q : Value → Shared → Prop} (I : Inv X pins σ H s) (TB : LamX.TabB X.base X.mg c P) (hcode : X.env.code = .ref c)
    (hm : (P, X.env.qual ++ "<lambda>") ∈ Ts) (hu : ∀ p ∈ Ts, p.1 = P → p.2 = X.env.qual ++ "<lambda>") (hT : LamX.Tabs Ts H) (hdf : params.defaults = [.Constant (.int z) jc pc]) (hkd : params.kw_defaults = []) (hfree : ∀ y ∈ scope.names, y.2 = .free → ∃ c, X.env.cells.lookup y.1 = some c)
    (h : ∀ (f T c' : Addr) (t : Tok) (doc pm ctv : Value) (H1 : Hp) (s' : Shared), Inv X pins σ H1 s' → LamX.ExtN H H1 → LamX.Tabs Ts H1 → LamAt X H1 s'.heap params body scope f T c' [.int z t] doc pm ctv → H1 c' = some (LamX.CodeO c' (X.env.qual ++ "<lambda>")) → Q (.ref f) s') :
    wpAny (model X.prog X.w) X.A (eval (.Lambda params body scope pos) X.env) Q E s := by
  obtain ⟨ps, hP, ht, ha⟩ := hT _ hm
  refine PySem.W.kdv_lam (by rw [hdf]; rfl) hkd ?_
  rw [hdf]
  refine PySem.W.kdv_all1 (wpAny_Constant_int (PySem.W.kdv_all0 ?_))
  have I0 := I.tok (s.toks + 1)
  rw [makeFunction_eq]
  simp only [List.zip_nil_right, List.filterMap_nil, List.isEmpty_nil, List.isEmpty_cons, Bool.false_eq_true, if_false, if_true, pure_bind]
  refine wpAny_bind (wpAny_newTextTuple ?_)
  obtain ⟨tk0, htk0⟩ : ∃ t : Tok, t = s.toks := ⟨_, rfl⟩
  rw [← htk0]
  -- behind the default's tuple
  have I2 : Inv X pins σ H { s with heap := s.heap.push (PySem.W.kdv_tup [.int z tk0]), toks := tk0 + 1 } := I0.kept (t' := tk0 + 1) fun b o e => Heap.get?_push_of_some _ e
  have hTup : (s.heap.push (PySem.W.kdv_tup [.int z tk0])).get? s.heap.objs.size = some (PySem.W.kdv_tup [.int z tk0]) := Heap.get?_push_size _ rfl
  have nofr : ∀ f, s.heap.objs.size ≤ f → f ∉ frs X.stack := fun f hf y => by
    rcases List.mem_cons.mp (I.stkSub _ y) with e | e
    · have h1 := I.lt
      rw [← e] at h1
      exact Nat.lt_irrefl _ (Nat.lt_of_lt_of_le h1 hf)
    · exact I.nofs hf e
  have hTn : H s.heap.objs.size = none := I.hok.fresh (Nat.le_refl _)
  have bP : (s.heap.push (PySem.W.kdv_tup [.int z tk0])).BuiltinsAt X.mg P := TB.bm.keeps I2.bk
  have hP' : (s.heap.push (PySem.W.kdv_tup [.int z tk0])).get? P = some { cls := .none, data := .fields ps } := I2.hok P _ hP
  have hTP : s.heap.objs.size ≠ P := ne_of_none hP hTn |>.symm
  have sz1 : s.heap.objs.size < (s.heap.push (PySem.W.kdv_tup [.int z tk0])).objs.size := Heap.lt_size hTup
  show wpAny _ _ (makeTail "<lambda>" (X.env.qual ++ "<lambda>") params (.expr body) scope X.env (.ref s.heap.objs.size) .none none pos pos.line) Q E { s with heap := s.heap.push (PySem.W.kdv_tup [.int z tk0]), toks := tk0 + 1 }
  cases hc : codeAmong pos ps.toList with
  | none =>
    refine PySem.W.kdv_makeTail (mg := X.mg) (c := c) (P := P) (ps := ps) (closure_ok hfree) I.ok.glob (I2.mod.glob.keeps I2.bk) hcode (TB.code.keeps I2.bk) hP' ht hc TB.gP bP fun c' ctv doc h' tk hx hge hlt hrec htb => ?_
    obtain ⟨c2, oc, vs, t, e2, hoc, hd, hv⟩ := hrec
    cases e2
    have hge' : (s.heap.push (PySem.W.kdv_tup [.int z tk0])).objs.size ≤ c' := hge
    have hsz : (s.heap.push (PySem.W.kdv_tup [.int z tk0])).objs.size ≤ h'.objs.size := Nat.le_trans hge' (Nat.le_of_lt hlt)
    have nC : H c' = none := I2.hok.fresh hge
    have I1 := LamX.inv_table (q := X.env.qual ++ "<lambda>") (t' := tk) (more := #[rawInt pos.line, rawInt pos.col, .ref c']) (h' := h'.push (PySem.W.kdv_obj "<lambda>" (X.env.qual ++ "<lambda>") params (.expr body) scope (cloFrom X.env.cells scope.names []) (.ref s.heap.objs.size) doc ((X.mg "__name__").getD .none) c' ctv)) I2 hP
      (fun b o hb e => Heap.get?_push_of_some _ (hx b o hb e)) (Heap.get?_push_of_some _ htb) hge ⟨oc, vs, t, Heap.get?_push_of_some _ hoc, hd, hv⟩
    have hE : LamX.ExtN H (upd (upd H P (.tbl (ps ++ #[rawInt pos.line, rawInt pos.col, .ref c']))) c' (LamX.CodeO c' (X.env.qual ++ "<lambda>"))) := fun b o e n => by
      rw [upd_ne (ne_of_none e nC), upd_ne (fun y => n ps (Option.some.inj (e.symm.trans (by rw [y]; exact hP))))]
      exact e
    have eL : (ps ++ #[rawInt pos.line, rawInt pos.col, .ref c']).toList = ps.toList ++ [rawInt pos.line, rawInt pos.col, .ref c'] := by simp
    have none_at : ∀ b, b ≠ c' → b ≠ P → H b = none → upd (upd H P (.tbl (ps ++ #[rawInt pos.line, rawInt pos.col, .ref c']))) c' (LamX.CodeO c' (X.env.qual ++ "<lambda>")) b = none := fun b n1 n2 e => by
      rw [upd_ne n1, upd_ne n2]
      exact e
    have hPlt : P < h'.objs.size := Nat.lt_of_lt_of_le (Heap.lt_size hP') hsz
    refine h h'.objs.size s.heap.objs.size c' tk0 doc ((X.mg "__name__").getD .none) ctv _ _ I1 hE (fun p hp => ?_) ⟨Heap.get?_push_size _ rfl, none_at _ (Nat.ne_of_gt hlt) (Nat.ne_of_gt hPlt) (I2.hok.fresh hsz), nofr _ (Nat.le_trans (Nat.le_of_lt sz1) hsz),
      Heap.get?_push_of_some _ (hx _ _ hTP hTup), none_at _ (Nat.ne_of_lt (Nat.lt_of_lt_of_le sz1 hge')) hTP hTn, nofr _ (Nat.le_refl _)⟩ upd_same
    by_cases hb : p.1 = P
    · rw [hu p hp hb, hb]
      refine ⟨_, by rw [upd_ne (ne_of_none hP nC), upd_same], by rw [eL]; exact PySem.TriplesOk_snoc _ _ _ _ ht, fun p' cv hcv => ?_⟩
      rw [eL] at hcv
      rcases LamX.among_app _ ht hcv with y | y
      · obtain ⟨c0, e1, e2⟩ := ha p' cv y
        exact ⟨c0, e1, hE _ _ e2 LamX.codeO_ne⟩
      · exact ⟨c', y, upd_same⟩
    · obtain ⟨ps', a1, a2, a3⟩ := hT p hp
      refine ⟨ps', by rw [upd_ne (ne_of_none a1 nC), upd_ne hb]; exact a1, a2, fun p' cv hcv => ?_⟩
      obtain ⟨c0, e1, e2⟩ := a3 p' cv hcv
      exact ⟨c0, e1, hE _ _ e2 LamX.codeO_ne⟩
  | some cv =>
    obtain ⟨c', rfl, hco⟩ := ha pos cv hc
    refine PySem.W.kdv_makeTailHit (mg := X.mg) (c := c) (P := P) (ps := ps) (closure_ok hfree) I.ok.glob (I2.mod.glob.keeps I2.bk) hcode (TB.code.keeps I2.bk) hP' ht hc bP fun ctv doc h' tk hx hsz => ?_
    have I1 : Inv X pins σ H { s with heap := h'.push (PySem.W.kdv_obj "<lambda>" (X.env.qual ++ "<lambda>") params (.expr body) scope (cloFrom X.env.cells scope.names []) (.ref s.heap.objs.size) doc ((X.mg "__name__").getD .none) c' ctv), toks := tk } := I2.kept fun b o e => Heap.get?_push_of_some _ (hx b o e)
    exact h h'.objs.size s.heap.objs.size c' tk0 doc ((X.mg "__name__").getD .none) ctv H _ I1 (LamX.ExtN.refl H) hT ⟨Heap.get?_push_size _ rfl, I2.hok.fresh hsz, nofr _ (Nat.le_trans (Nat.le_of_lt sz1) hsz), Heap.get?_push_of_some _ (hx _ _ hTup), hTn, nofr _ (Nat.le_refl _)⟩ hco
end
section
variable {X : Cx}
/-- x(lambda y=z: body) -/
theorem pe_lamcallD {Ts : List (Addr × Str)} {TT : (XK → Hp → VK → Prop) → Hp → VK → Prop} {x a : Str} {g c P : Addr} {k : Nat} {pg : Arguments} {bg : List Stmt} {sg : Scope} {dV kV doc pm cdv ct oc : Value} {an od : Option Addr} {osl : Array (Option Value)} {Ng : List Str}
    {params : Arguments} {body : Expr} {scope : Scope} {t : XK → TE} {p lpos pos : Pos} {z : Int} {jc : Nat} {pc : Pos} {y : Str} (hg : Gl X x) (hm : X.mg x = some (.ref g)) (hk : PySem.W.keepIn X.K (.ref g) = true)
    (lk : X.K.lookup g = some ⟨oc, od, .func (PySem.W.fnOf x x pg bg sg dV kV doc pm an cdv ct), osl⟩) (hcg : PySem.W.codeIn X.K cdv x = true) (hb : L2.Binds X.K (PySem.W.fnOf x x pg bg sg dV kV doc pm an cdv ct) [a] []) (Sg : FnScope Ng [a] sg) (hNg : Ng[0]? = some a) (hva : Vis sg a)
    (hG : LamX.GivesTo X Ng x sg g cdv bg a (X.env.qual ++ "<lambda>") TT)
    (TB : LamX.TabB X.base X.mg c P) (hcode : X.env.code = .ref c) (hmT : (P, X.env.qual ++ "<lambda>") ∈ Ts) (hu : ∀ p ∈ Ts, p.1 = P → p.2 = X.env.qual ++ "<lambda>") (hr : Room (k + 2) X.A) (L : LamN X.N X.env.scope scope) (hdf : params.defaults = [.Constant (.int z) jc pc]) (hkd : params.kw_defaults = [])
    (hbind : ∀ t : Tok, LamB params body scope [.int z t] [(y, .int z t)])
    (hbody : ∀ (A : Around) (outer : List Env) (s : Shared) (H : Hp) (E : XK) (f c' : Addr), Room k (A.deeper (LamX.lamEnv X scope s.heap.objs.size f c')) → PE (LamX.lamCx X A outer s H E scope f c') body (t E))
    (hdb : (x == ("__debug__" : Str)) = false := by decide) (hd : (a == ("__debug__" : Str)) = false := by decide) (hcd : (a == ("__classdict__" : Str)) = false := by decide) :
    PE X (.Call (.Name x p) [.Lambda params body scope lpos] [] pos) (LamX.tLam Ts TT t) := by
  refine ⟨fun pins s σ H Q I ⟨hT, h⟩ => ?_⟩
  refine wpAny_Call_Name_kw (ld_glob I hg hm ?_ hdb)
  refine PySem.W.callWith_K (h₀ := X.base) I.ok.mod.kin hk ?_ (by rfl) (by rfl)
  show wpAny _ _ (spliced ((false, eval (.Lambda params body scope lpos) X.env) :: backTo pos (starEach [] X.env))) _ _ s
  refine Calls.spliced_cons (lam_makeD I TB hcode hmT hu hT hdf hkd (L.has I.ok) fun f T c' tk doc' pm' ctv H1 s' I1 eN T1 LA hco => ?_)
  refine Calls.spliced_nil ⟨I1.kIn, ?_⟩
  have rc : codeAny (model X.prog X.w) X.A (.call (.ref g) ⟨[.ref f], []⟩) (CR C8.CX0 X.stack X.prog X.w H1 s' Q C8.E0) s' := by
    refine LamX.run_ofS (N := Ng) (ps := [a]) (us := [.ref f]) (vs := [.ref f]) lk hcg Sg hr I1.env0 (hb s' [.ref f] I1.kIn rfl) (.cons rfl .nil) rfl fun hr' => ?_
    obtain ⟨t', ht', hq'⟩ := hG f c' s' H1 Q (fun E H' Q' => t E σ H' Q') (fun W pn xe E p1 p2 tk hW => pe_actD (i := 0) I1 L LA (hbind _) tk hW hr' (fun A outer s H hr2 => hbody A outer s H E f c' hr2) hNg hva hd hcd) hco (h H1 eN T1)
    exact ⟨t', ht'.nox, hq'⟩
  refine wpAny_call (codeAny_mono rc fun r s2 hq => ?_)
  cases r with
  | error e => exact (show False from hq).elim
  | ok fl =>
    cases fl with
    | ret u => exact I1.after hq
    | next => exact False.elim hq
    | brk => exact False.elim hq
    | cont => exact False.elim hq
end
end K52
/-! What the law itself needs: repr of lists, a call with keywords alone, the law's entry where nothing is being shown yet. -/
namespace K52
open PySem PySem.Spec PyProof.Rows L2
section
variable {X : Cx}
/-! ### repr -/
def rShow (K : PySem.W.Frag) : List V → Hp → VK → Prop := fun xs H Q => ∃ a d, xs = [.ref a] ∧ Dp K H (.ref a) d ∧ d.showable = true ∧ d.hasDict = false ∧ d.depth ≤ 40 ∧ d.shown.length ≤ sizeLine ∧ Q (.str d.shown) H
theorem call_show (hg : X.A.guards = some []) (hu : X.A.units + 64 < cLine) : CallR X (.builtin "repr") (rShow X.K) := by
  intro pins s σ H xs us Q I r h
  obtain ⟨a, d, rfl, hd, sh, nd, dp, sz, q⟩ := h
  obtain ⟨u, rfl, rx⟩ := vals1 r
  obtain rfl : u = Value.ref a := rx
  obtain ⟨as, rd⟩ := Dp.reads I d _ _ hd rfl
  refine repr_of_reads' rd sh (fun z => ?_) hg (by omega) (fun _ _ e => e) (fun h' t tk k => ?_) sz
  · rw [nd] at z
    cases z
  · exact ⟨.str d.shown, H, I.kept (t' := tk) k, ⟨t, rfl⟩, q⟩
/-! ### how long a number is when it is shown -/
theorem len_txt {i : Int} (h : i.natAbs.log2 < 1920) : (PyData.shown (.int i)).length ≤ 1921 := by
  show (Str.ofString (toString i)).length ≤ 1921
  rw [PySem.ofString_length]
  exact int_text_length_le (by decide) h
theorem len_list2 (x y : Str) : (listText [x, y]).length = x.length + y.length + 4 := by
  show ((((Str.ofString "[" ++ Str.ofString "") ++ x) ++ Str.ofString ", ") ++ y ++ Str.ofString "]").length = _
  simp only [Str.length_append, PySem.ofString_length]
  show 1 + 0 + _ + 2 + _ + 1 = _
  omega
theorem len_tup2 (x y : Str) : (tupleText [x, y]).length = x.length + y.length + 4 := by
  show (Str.ofString "(" ++ (x ++ Str.ofString ", " ++ y) ++ Str.ofString ")").length = _
  simp only [Str.length_append, PySem.ofString_length]
  show 1 + (_ + 2 + _) + 1 = _
  omega
/-- [n, n], n a number in its one form -/
def twoD (a u : Nat) : PyData := .list [numD a u, numD a u]
theorem log_lt {n k : Nat} (h : n < 2 ^ k) (hk : 0 < k) : n.log2 < k := by
  by_cases h0 : n = 0
  · subst h0
    rw [Nat.log2_zero]
    exact hk
  · exact (Nat.log2_lt h0).mpr h
theorem numD_len {a u : Nat} (ha : a < 2 ^ 1900) (hu : u < 2 ^ 1900) : (numD a u).showable = true ∧ (numD a u).hasDict = false ∧ (numD a u).depth ≤ 10 ∧ (numD a u).shown.length ≤ 4000 := by
  have la : ((a : Int)).natAbs.log2 < 1920 := by
    rw [Int.natAbs_natCast]
    exact Nat.lt_of_lt_of_le (log_lt ha (by decide)) (by decide)
  have lu : ((u : Int)).natAbs.log2 < 1920 := by
    rw [Int.natAbs_natCast]
    exact Nat.lt_of_lt_of_le (log_lt hu (by decide)) (by decide)
  have ta := len_txt la
  have tu := len_txt lu
  unfold numD
  split
  · refine ⟨by simp only [PyData.showable, decide_eq_true_eq]; exact la, by simp only [PyData.hasDict], by simp only [PyData.depth]; decide, by omega⟩
  · refine ⟨by simp only [PyData.showable, PyData.showableAll, Bool.and_eq_true, decide_eq_true_eq]; exact ⟨la, lu, trivial⟩, by simp only [PyData.hasDict, PyData.hasDictAll, Bool.or_self], by simp only [PyData.depth, PyData.depthAll]; decide, ?_⟩
    show (tupleText [PyData.shown (.int (a : Int)), PyData.shown (.int (u : Int))]).length ≤ 4000
    rw [len_tup2]
    omega
theorem twoD_ok {a u : Nat} (ha : a < 2 ^ 1900) (hu : u < 2 ^ 1900) : (twoD a u).showable = true ∧ (twoD a u).hasDict = false ∧ (twoD a u).depth ≤ 40 ∧ (twoD a u).shown.length ≤ sizeLine := by
  obtain ⟨h1, h2, h3, h4⟩ := numD_len ha hu
  unfold twoD
  refine ⟨by simp only [PyData.showable, PyData.showableAll, h1, Bool.and_self], by simp only [PyData.hasDict, PyData.hasDictAll, h2, Bool.or_self], by simp only [PyData.depth, PyData.depthAll]; omega, ?_⟩
  show (listText [PyData.shown (numD a u), PyData.shown (numD a u)]).length ≤ sizeLine
  rw [len_list2, sizeLine_eq]
  omega
/-! ### f(k = v, ..) -/
section
variable {CX : CXT} {k : Nat} {f : Addr} {fd : FuncData} {ps ks : List Str} {sp : Sp} {E : XK} {x : Str} {p pos : Pos} {kws : List Keyword} {tk : TA} {g : List Value → List Value → List Value} {gV : List V → List V → List V}
theorem pe_callKw (F : FnOk X.prog X.w X.K X.mg X.base CX k f fd ps sp) (hr : Room k X.A) (hg : Gl X x) (hm : X.mg x = some (.ref f)) (hk : PySem.W.keepIn X.K (.ref f) = true) (hb : KBinds X.K fd ps ks g gV) (hx : Passes CX X E)
    (hkw : PK X kws tk) (hall : (backToKw pos (keywordEach kws X.env)).all (·.1.isSome) = true := by rfl) (hks : (backToKw pos (keywordEach kws X.env)).filterMap (·.1) = ks := by rfl)
    (hdb : (x == ("__debug__" : Str)) = false := by decide) (hpl : ((backTo pos (starEach [] X.env)).any (·.1) || (backToKw pos (keywordEach kws X.env)).any (·.1.isNone)) = false := by rfl) :
    PE X (.Call (.Name x p) [] kws pos) (tCallK sp gV E tNil tk) := by
  refine ⟨fun pins s σ H Q I h => wpAny_Call_Name_kw (ld_glob I hg hm ?_ hdb)⟩
  refine PySem.W.callWith_KW0 (h₀ := X.base) I.ok.mod.kin hk hall ?_ hpl
  refine thn (hkw.run pos pins s σ H _ I h) fun ws s2 ⟨zs, H2, I2, rz, q2⟩ => ⟨I2.kIn, ?_⟩
  rw [hks]
  exact run_fnk F hr hb hx I2 (us := []) .nil rz q2
end
end
/-! ### the law's entry -/
/-- what is asked of the law: c its code object, T that object's table -/
def Here (prog : Program) (w : World) (K : PySem.W.Frag) (mg : Str → Option Value) (fa : Addr) (n : Nat) (h : Heap) : Prop :=
  ∃ c T : Addr, h.get? T = some { cls := .none, data := .fields #[] } ∧ K.lookup T = none ∧ PySem.W.CodeHd h c T ∧
    ∀ (s : Shared) (base : Heap) (H : Hp) (a : Addr) (ns : List Int), ns.length ≤ n → (∀ z ∈ ns, Builtin.Int.intBits z ≤ 1048576) → LamX.TabB base mg c T → Env0 prog w K mg base callerA [] s H → H T = some (.tbl #[]) → SqL K H a (ns.map V.int) →
      codeAny (model prog w) callerA (.call (.ref fa) ⟨[.ref a], []⟩) (CR C8.CX0 [] prog w H s (fun v _ => v = .bl true) fun _ _ _ => False) s
section
variable {prog : Program} {w : World} {K : PySem.W.Frag} {mg mb : Str → Option Value} {fa a : Addr} {n : Nat} {s : Shared} {vs : List Value} {ns : List Int}
theorem here_call (KX : K.In s.heap) (hns : s.heap.Ns mainGlobals mg) (hb : s.heap.Ns builtinsNs mb) (hbb : ∀ x : Str, x ≠ "__name__" → mb x = bootBuiltins x) (hlim : s.heap.NoLimit) (hg : s.gens = #[])
    (hbm : ∃ (bm : Addr) (ob : Obj), mg "__builtins__" = some (.ref bm) ∧ bm ≠ builtinsNs ∧ s.heap.get? bm = some ob ∧ ob.cls = .type "module" ∧ ob.dict = some builtinsNs ∧ ob.data = .plain)
    (ha : s.heap.get? a = some { cls := .type "list", data := .seq vs.toArray }) (hi : IntsAre vs ns) (hl : ns.length ≤ n) (hn : n ≤ sizeLine) (bits : ∀ z ∈ ns, Builtin.Int.intBits z ≤ 1048576) (F : Here prog w K mg fa n s.heap) :
    codeAny (model prog w) callerA (.call (.ref fa) ⟨[.ref a], []⟩) (fun r s' => r = .ok (.ret (.bool true)) ∧ OldK s.heap s'.heap ∧ s'.os = s.os ∧ AllBare s'.gens) s := by
  obtain ⟨c, T, hT, nT, C, run⟩ := F
  have rv := vals_ints hi
  have lenV := hi.length
  have lenS : ns.length ≤ sizeLine := Nat.le_trans hl hn
  have aT : a ≠ T := fun z => by
    rw [z, hT] at ha
    cases ha
  -- the script is tracked where no constant stands for it
  obtain ⟨lone, hlone⟩ : ∃ b : Bool, b = (K.lookup a).isNone := ⟨_, rfl⟩
  obtain ⟨H, hH⟩ : ∃ H : Hp, H = fun b => if b = T then some (.tbl #[]) else if b = a ∧ lone = true then some (.frz { cls := .type "list", data := .seq vs.toArray } (.lst (ns.map V.int))) else none := ⟨_, rfl⟩
  have HT : H T = some (.tbl #[]) := by rw [hH]; exact if_pos rfl
  have Ho : ∀ b, b ≠ T → b ≠ a → H b = none := fun b h1 h2 => by
    rw [hH]
    show (if b = T then _ else _) = _
    rw [if_neg h1, if_neg fun z => h2 z.1]
  have Ha : lone = true → H a = some (.frz { cls := .type "list", data := .seq vs.toArray } (.lst (ns.map V.int))) := fun e => by
    rw [hH]
    show (if a = T then _ else _) = _
    rw [if_neg aT, if_pos ⟨rfl, e⟩]
  have Ha0 : lone = false → H a = none := fun e => by
    rw [hH]
    show (if a = T then _ else _) = _
    rw [if_neg aT, if_neg fun z => by rw [e] at z; exact nomatch z.2]
  have hok : HOk prog w H s.heap := fun b u e => by
    by_cases h1 : b = T
    · rw [h1, HT] at e
      cases e
      rw [h1]
      exact hT
    · by_cases h2 : b = a
      · cases q : lone with
        | false =>
          rw [h2, Ha0 q] at e
          cases e
        | true =>
          rw [h2, Ha q] at e
          cases e
          rw [h2]
          exact ⟨ha, by rw [List.length_map]; exact lenS, vs, _, rv, ha⟩
      · rw [Ho b h1 h2] at e
        cases e
  have hS : SqL K H a (ns.map V.int) := by
    cases q : lone with
    | true => exact .inl (.inr ⟨_, Ha q⟩)
    | false =>
      cases e : K.lookup a with
      | none =>
        rw [q, e] at hlone
        cases hlone
      | some o =>
        have z := KX a o e
        rw [ha] at z
        cases z
        exact .inr ⟨_, vs.toArray, _, e, rfl, rfl, rfl, by rw [List.size_toArray, lenV]; exact lenS, by simpa using rv⟩
  -- what is neither a list nor the table is not tracked
  have far : ∀ {b : Addr} {o : Obj}, s.heap.get? b = some o → (∀ xs m, o.data ≠ .seq xs m) → o.data ≠ .fields #[] → H b = none := fun {b o} e h1 h2 => by
    refine Ho b (fun z => ?_) fun z => ?_
    · rw [z, hT] at e
      cases e
      exact h2 rfl
    · rw [z, ha] at e
      cases e
      exact h1 _ _ rfl
  have stay : ∀ {b : Addr} {o : Obj}, s.heap.get? b = some o → H b = none → (hidT s.heap H).get? b = some o := fun e q => hidT_get e q
  have nsd : ∀ {b : Addr} {m : Str → Option Value}, s.heap.Ns b m → (hidT s.heap H).Ns b m := fun {b m} ⟨o, es, ep, e, d, r⟩ =>
    ⟨o, es, ep, stay e (far e (fun xs m z => by rw [d] at z; cases z) fun z => by rw [d] at z; cases z), d, r⟩
  have KB : K.In (hidT s.heap H) := fun b o e => stay (KX b o e) (by
    by_cases h1 : b = T
    · rw [h1, nT] at e
      cases e
    · by_cases h2 : b = a
      · rw [h2] at e ⊢
        refine Ha0 ?_
        rw [hlone, e]
        rfl
      · exact Ho b h1 h2)
  have M : L2.Mod K mg (hidT s.heap H) := ⟨KB, nsd hns, ⟨mb, nsd hb, hbb⟩, let ⟨mc, e1, e2⟩ := hlim; ⟨mc, nsd e1, e2⟩⟩
  have gT : mainGlobals ≠ T := fun z => by
    obtain ⟨o, es, ep, e, d, _⟩ := hns
    rw [z, hT] at e
    cases e
    cases d
  have TB : LamX.TabB (hidT s.heap H) mg c T := by
    refine ⟨?_, ?_, gT⟩
    · obtain ⟨o, us, file, tf, flags, tg, inF, text, tt, e1, r1, r2, r3, more⟩ := C
      exact ⟨o, us, file, tf, flags, tg, inF, text, tt, stay e1 (far e1 (fun xs m z => by rw [r2] at z; cases z) fun z => by rw [r2] at z; cases z; simp at r3), r1, r2, r3, more⟩
    · obtain ⟨bm, ob, b1, b2, b3, b4, b5, b6⟩ := hbm
      have n1 : bm ≠ mainGlobals := fun z => by
        obtain ⟨o, es, ep, e, d, _⟩ := hns
        rw [z, e] at b3
        cases b3
        rw [d] at b6
        cases b6
      have n2 : bm ≠ T := fun z => by
        rw [z, hT] at b3
        cases b3
        cases b6
      exact ⟨bm, ob, b1, b2, n1, n2, stay b3 (far b3 (fun xs m z => by rw [b6] at z; cases z) fun z => by rw [b6] at z; cases z), b4, b5, b6⟩
  have e0 : Env0 prog w K mg (hidT s.heap H) callerA [] s H := ⟨rfl, M, fun b o e => of_hidT e, Nat.le_of_eq (hidT_size _ _), trivial, fun b z => (nomatch z), hok, .of_eq hg⟩
  refine codeAny_mono (run s _ H a ns hl bits TB e0 HT hS) fun r s' h => ?_
  match r, h with
  | .error e, h => exact (show False from h).elim
  | .ok .next, h => exact False.elim h
  | .ok .brk, h => exact False.elim h
  | .ok .cont, h => exact False.elim h
  | .ok (.ret u), h =>
    obtain ⟨v, H', os, bare, un, hok', rvu, q⟩ := h
    have q' : v = .bl true := q
    subst q'
    obtain rfl : u = Value.bool true := rvu
    obtain ⟨more, hm⟩ := un.tbls T #[] HT
    have hm' : s'.heap.get? T = some { cls := .none, data := .fields (#[] ++ more) } := hok' T _ hm
    have rest : ∀ b o, b ≠ T → s.heap.get? b = some o → s'.heap.get? b = some o := fun b o nb e => by
      by_cases h2 : b = a
      · cases q : lone with
        | false => exact un.keep b o e (by rw [h2]; exact Ha0 q) (fun z => nomatch z) (fun z => nomatch z)
        | true =>
          obtain ⟨e2, _⟩ := hok' a _ (un.frzs a _ _ (Ha q))
          rw [h2] at e ⊢
          rw [ha] at e
          cases e
          exact e2
      · exact un.keep b o e (Ho b nb h2) (fun z => nomatch z) (fun z => nomatch z)
    refine ⟨rfl, ⟨fun b o e => ?_, fun b o e => ?_⟩, os, bare⟩
    · by_cases hb : b = T
      · rw [hb] at e ⊢
        rw [hT] at e
        cases e
        exact .inr (.inl ⟨(C.tab hT).isCodeTable, rfl, #[], more, rfl, hm'⟩)
      · exact .inl (rest b o hb e)
    · by_cases hb : b = T
      · rw [hb]
        exact ⟨_, hm'⟩
      · exact ⟨o, rest b o hb e⟩
end
theorem walk_here {l : PySem.W.OpenLaw} {n : Nat} {q : Program} {loose : List Str} {XP : (Str → Option Value) → Heap → Prop} {YP : World → Heap → Prop} {d : DefRec} {K : Params → PySem.W.Frag} (hn : l.most = some n) (hz : n ≤ sizeLine) (hdf : d.params.defaults = [])
    (hY : ∀ (w : World) (h : Heap), YP w h → (K w.params).In h) (F : ∀ (w : World) (mg : Str → Option Value) (fa : Addr) (h : Heap), YP w h → (K w.params).In h → h.Ns mainGlobals mg → mg d.name = some (.ref fa) → Here l.prog w (K w.params) mg fa n h) :
    PySem.W.WalkO q loose XP YP l.row.toRowW d [] (fun f vs => PySem.call f vs) :=
  Att.attach_callB hn hdf fun w _ s₁ mg mb fa _ _ _ _ a vs ns G Y _ _ _ hmg hobj hints hlen bits hg =>
    here_call (hY w _ Y) G.T.g G.T.b G.T.builtins G.T.nolimit hg G.T.bmain hobj hints hlen hz bits (F w mg fa _ Y (hY w _ Y) G.T.g hmg)
end K52
/-! The finitely many cases in which the law holds the two ways together, counted out. -/
namespace K52
/-- f n, f (n - 1), .. f 0 -/
def revs (f : Nat → Nat) : Nat → List Nat
  | 0 => [f 0]
  | n + 1 => f (n + 1) :: revs f n
/-- t m, t (m + 1), .. k of them -/
def tts (t : Nat → Nat) : Nat → Nat → List Nat
  | _, 0 => []
  | m, k + 1 => t m :: tts t (m + 1) k
theorem revs_len (f : Nat → Nat) : ∀ n, (revs f n).length = n + 1
  | 0 => rfl
  | n + 1 => by
    show (revs f n).length + 1 = _
    rw [revs_len f n]
def cj : Nat → Nat → Nat → List Nat → List Nat → Nat
  | lots, n, m, r :: rs, t :: ts => lots * r * t + cj (lots * n / (m + 1)) (n - 1) (m + 1) rs ts
  | _, _, _, [], _ => 0
  | _, _, _, _ :: _, [] => 0
theorem cj_eq (f t : Nat → Nat) : ∀ (n m k : Nat), cj (ch (m + n) m) n m (revs f n) (tts t m (n + 1 + k)) = sumTo (n + 1) (fun j => ch (m + n) (m + j) * f (m + n - (m + j)) * t (m + j))
  | 0, m, k => by
    rw [show 0 + 1 + k = k + 1 by omega]
    show ch (m + 0) m * f 0 * t m + cj _ _ _ [] (tts t (m + 1) k) = 0 + ch (m + 0) (m + 0) * f (m + 0 - (m + 0)) * t (m + 0)
    rw [Nat.sub_self, Nat.add_zero, Nat.zero_add]
    show _ + 0 = _
    rw [Nat.add_zero]
  | n + 1, m, k => by
    rw [show n + 1 + 1 + k = (n + 1 + k) + 1 by omega]
    show ch (m + (n + 1)) m * f (n + 1) * t m + cj (ch (m + (n + 1)) m * (n + 1) / (m + 1)) (n + 1 - 1) (m + 1) (revs f n) (tts t (m + 1) (n + 1 + k)) = _
    have e : ch (m + (n + 1)) m * (n + 1) / (m + 1) = ch (m + 1 + n) (m + 1) := by
      have h := ch_next (m + (n + 1)) m
      rw [show m + (n + 1) - m = n + 1 by omega] at h
      rw [h, show m + (n + 1) = m + 1 + n by omega]
    rw [e, Nat.add_sub_cancel, cj_eq f t n (m + 1) k, sumTo_first _ (n + 1)]
    congr 1
    · show _ = ch (m + (n + 1)) m * f (m + (n + 1) - m) * t m
      rw [show m + (n + 1) - m = n + 1 by omega]
    · refine sumTo_congr fun j _ => ?_
      rw [show m + (n + 1) = m + 1 + n by omega, show m + (j + 1) = m + 1 + j by omega]
theorem cj_conv (f t : Nat → Nat) (n k : Nat) : cj 1 n 0 (revs f n) (tts t 0 (n + 1 + k)) = conv f t n := by
  have h := cj_eq f t n 0 k
  rw [Nat.zero_add, ch_zero] at h
  rw [h]
  refine sumTo_congr fun j _ => ?_
  rw [Nat.zero_add]
def nxt (ts : List Nat) : List Nat → List Nat
  | [] => []
  | r :: rest => cj 1 rest.length 0 (r :: rest) ts :: nxt ts rest
theorem nxt_eq (f t : Nat → Nat) : ∀ (n k : Nat), nxt (tts t 0 (n + 1 + k)) (revs f n) = revs (conv f t) n
  | 0, k => by
    show [cj 1 0 0 (revs f 0) (tts t 0 (0 + 1 + k))] = [conv f t 0]
    rw [cj_conv]
  | n + 1, k => by
    have h := nxt_eq f t n (k + 1)
    rw [show n + 1 + (k + 1) = n + 1 + 1 + k by omega] at h
    show cj 1 (revs f n).length 0 (revs f (n + 1)) (tts t 0 (n + 1 + 1 + k)) :: nxt (tts t 0 (n + 1 + 1 + k)) (revs f n) = conv f t (n + 1) :: revs (conv f t) n
    rw [h, revs_len, cj_conv]
theorem conv_delta (t : Nat → Nat) (n : Nat) : conv delta t n = t n := by
  unfold conv
  show sumTo n (fun m => ch n m * delta (n - m) * t m) + ch n n * delta (n - n) * t n = t n
  have h1 : sumTo n (fun m => ch n m * delta (n - m) * t m) = sumTo n fun _ => 0 := sumTo_congr fun m hm => by
    have hd : delta (n - m) = 0 := by
      unfold delta
      rw [if_neg (by omega)]
    show ch n m * delta (n - m) * t m = 0
    rw [hd, Nat.mul_zero, Nat.zero_mul]
  have h2 : ∀ n, ch n n = 1 := fun n => by
    induction n with
    | zero => rfl
    | succ n ih =>
      show ch n n + ch n (n + 1) = 1
      rw [ih, ch_over n (n + 1) (Nat.lt_succ_self n)]
  rw [h1, sumTo_zero, h2, Nat.sub_self]
  show 0 + 1 * 1 * t n = t n
  omega
/-- the rows of g + 1 goods without counts -/
def piles (ts : List Nat) (first : List Nat) : Nat → List Nat
  | 0 => first
  | g + 1 => nxt ts (piles ts first g)
theorem revs_congr {f g : Nat → Nat} (h : ∀ i, f i = g i) : ∀ n, revs f n = revs g n
  | 0 => by
    show [f 0] = [g 0]
    rw [h]
  | n + 1 => by
    show f (n + 1) :: revs f n = g (n + 1) :: revs g n
    rw [h, revs_congr h n]
theorem rows_rep (g : Nat) : rows (List.replicate (g + 1) 0) = conv (rows (List.replicate g 0)) tw := by
  rw [List.replicate_succ', rows_snoc]
  congr 1
  funext m
  rw [Nat.zero_add]
theorem piles_eq (n : Nat) : ∀ g, piles (tts tw 0 (n + 1)) (revs tw n) g = revs (rows (List.replicate (g + 1) 0)) n
  | 0 => by
    show revs tw n = _
    refine revs_congr (fun i => ?_) n
    rw [rows_rep]
    show tw i = conv delta tw i
    rw [conv_delta]
  | g + 1 => by
    show nxt (tts tw 0 (n + 1)) (piles _ _ g) = _
    rw [piles_eq n g, rows_rep (g + 1)]
    exact nxt_eq _ tw n 0
def pq (d a b : Nat) : Nat → Nat
  | 0 => a
  | 1 => b
  | i + 2 => pq d a b (i + 1) + d * pq d a b i / (i + 1)
theorem pf_pq (d : Nat) : ∀ i, pf d i = pq d (tw d) (conv tw tw d) i
  | 0 => rfl
  | 1 => rfl
  | i + 2 => by
    show pf d (i + 1) + d * pf d i / (i + 1) = _
    rw [pf_pq d i, pf_pq d (i + 1)]
    rfl
def alike (g d : Nat) : Bool := Nat.beq ((piles (tts tw 0 (d + 1)) (revs tw d) g).headD 0) (pq d (tw d) (cj 1 d 0 (revs tw d) (tts tw 0 (d + 1))) g)
theorem revs_head (f : Nat → Nat) (n : Nat) : (revs f n).headD 0 = f n := by cases n <;> rfl
theorem alike_ok {g d : Nat} (h : alike g d = true) : S d (List.replicate (g + 1) 0) = pf d g := by
  have h1 := Nat.eq_of_beq_eq_true h
  rw [piles_eq, revs_head, rows_S] at h1
  rw [h1, pf_pq]
  have h2 := cj_conv tw tw d 0
  rw [Nat.add_zero] at h2
  rw [h2]
theorem alike_fin : ∀ g, g < 5 → ∀ d, d < [9, 7, 5, 4, 4].getD g 0 → alike g d = true := by decide +kernel
theorem alike_54 : alike 4 16 = true := by decide +kernel
theorem alike_43 : alike 3 29 = true := by decide +kernel
theorem alike_32 : alike 2 98 = true := by decide +kernel
end K52
/-! What stays true while the law goes on: the crate, the table of code objects, the odd values. -/
namespace K52
open PySem L2
/-- all stays but for the crate's list and the tables -/
def Kp (p : Addr) (H H' : Hp) : Prop := ∀ b o, b ≠ p → (∀ ps, o ≠ .tbl ps) → H b = some o → H' b = some o
theorem Kp.refl {p : Addr} {H : Hp} : Kp p H H := fun _ _ _ _ e => e
theorem Kp.trans {p : Addr} {H H1 H2 : Hp} (a : Kp p H H1) (b : Kp p H1 H2) : Kp p H H2 := fun c o n z e => b c o n z (a c o n z e)
theorem Kp.same {p : Addr} {H H' : Hp} (s : Same H H') : Kp p H H' := fun b o _ _ e => s b o e
theorem Kp.sb {p : Addr} {H H' : Hp} (s : SB p H H') : Kp p H H' := fun b o n _ e => s b o n e
theorem Kp.ext {p : Addr} {H H' : Hp} (s : LamX.ExtN H H') : Kp p H H' := fun b o _ z e => s b o e z
/-- the crate at p, the tables -/
structure Live (Ts : List (Addr × Str)) (p q : Addr) (n : Nat) (H : Hp) : Prop where
  crate : CrateAt H p q n
  tabs : LamX.Tabs Ts H
section
variable {Ts : List (Addr × Str)} {p q0 : Addr} {n m : Nat} {H H' : Hp}
theorem CrateAt.at {H : Hp} {p q : Addr} {n : Nat} (c : CrateAt H p q n) : ∃ xs, H p = some (.lst xs) := by
  obtain ⟨_, _, _, h, _⟩ := c
  exact ⟨_, h⟩
theorem Live.same (s : Same H H') (l : Live Ts p q0 n H) : Live Ts p q0 n H' := ⟨l.crate.same s, fun q hq => (l.tabs q hq).ext s⟩
theorem Live.mono (h : n ≤ m) (l : Live Ts p q0 n H) : Live Ts p q0 m H := ⟨l.crate.mono h, l.tabs⟩
theorem Live.sb (l : Live Ts p q0 n H) (s : SB p H H') (c : CrateAt H' p q0 m) : Live Ts p q0 m H' := by
  obtain ⟨xs, hp⟩ := l.crate.at
  refine ⟨c, fun q hq => ?_⟩
  obtain ⟨ps, h1, h2, h3⟩ := l.tabs q hq
  refine ⟨ps, s _ _ (ne_of h1 hp fun z => nomatch z) h1, h2, fun pos cv hc => ?_⟩
  obtain ⟨c', e1, e2⟩ := h3 pos cv hc
  exact ⟨c', e1, s _ _ (ne_of e2 hp fun z => nomatch z) e2⟩
theorem Live.ext (l : Live Ts p q0 n H) (s : LamX.ExtN H H') (t : LamX.Tabs Ts H') : Live Ts p q0 n H' := by
  obtain ⟨cs, t', z, h1, h2, h3⟩ := l.crate
  exact ⟨⟨cs, t', z, s _ _ h1 fun _ e => (nomatch e), s _ _ h2 fun _ e => (nomatch e), h3⟩, t⟩
theorem Live.put {D : Addr} {u : HO} (l : Live Ts p q0 n H) (h1 : D ≠ p) (h2 : D ≠ q0) (h3 : ∃ xs, H D = some (.lst xs)) : Live Ts p q0 n (upd H D u) := by
  obtain ⟨xs, hD⟩ := h3
  obtain ⟨cs, t', z, e1, e2, e3⟩ := l.crate
  refine ⟨⟨cs, t', z, by rw [upd_ne (Ne.symm h1)]; exact e1, by rw [upd_ne (Ne.symm h2)]; exact e2, e3⟩, fun q hq => ?_⟩
  obtain ⟨ps, g1, g2, g3⟩ := l.tabs q hq
  refine ⟨ps, by rw [upd_ne (ne_of g1 hD fun z => nomatch z)]; exact g1, g2, fun pos cv hc => ?_⟩
  obtain ⟨c', y1, y2⟩ := g3 pos cv hc
  exact ⟨c', y1, by rw [upd_ne (ne_of y2 hD fun z => nomatch z)]; exact y2⟩
theorem Live.ne2 {a : Addr} (l : Live Ts p q0 n H) (h : H a = none) : a ≠ q0 := fun e => by
  obtain ⟨cs, t', z, e1, e2, e3⟩ := l.crate
  rw [e, e2] at h
  cases h
theorem Live.ne {a : Addr} (l : Live Ts p q0 n H) (h : H a = none) : a ≠ p := fun e => by
  obtain ⟨xs, hp⟩ := l.crate.at
  rw [e, hp] at h
  cases h
end
/-! ### counts and days that are odd, whatever comes -/
def OddAt (p : Addr) (H : Hp) (v : V) : Prop := ∀ H', Kp p H H' → ∃ k, KdAt H' v k ∧ badC H' k
def FarAt (p : Addr) (H : Hp) (v : V) : Prop := ∀ H', Kp p H H' → ∃ l, KdAt H' v l ∧ isWithK 0 250 l = false
section
variable {p : Addr} {H H' : Hp} {v : V} {σ : L2.St} {Q : VK}
theorem OddAt.to (s : Kp p H H') (o : OddAt p H v) : OddAt p H' v := fun H2 s2 => o H2 (s.trans s2)
theorem FarAt.to (s : Kp p H H') (o : FarAt p H v) : FarAt p H' v := fun H2 s2 => o H2 (s.trans s2)
/-- the crate's place is taken -/
def Held (p : Addr) (H : Hp) : Prop := ∃ xs, H p = some (.lst xs)
theorem Held.same (s : Same H H') (h : Held p H) : Held p H' := let ⟨xs, e⟩ := h; ⟨xs, s _ _ e⟩
theorem Held.ne {a : Addr} (h : Held p H) (e : H a = none) : a ≠ p := fun z => by
  obtain ⟨xs, hx⟩ := h
  rw [z, hx] at e
  cases e
theorem odd_flat {k : Kd} (hk : ∀ H', KdAt H' v k) (hl : isLstK k = false) : OddAt p H v := fun H' _ => ⟨k, hk H', .inl hl⟩
/-- a list of flat values, not right as counts -/
theorem odd_list {xs : List V} {ks : Nat → Kd} {a : Addr} (hp : Held p H) (ha : H a = none) (hz : xs.length ≤ 1000) (hx : ∀ (i : Nat) (x : V) (H' : Hp), xs[i]? = some x → KdAt H' x (ks i)) (hc : cOk xs.length ks = false) : OddAt p (upd H a (.lst xs)) (.ref a) := fun H' s =>
  ⟨.lst xs, ⟨a, rfl, s a _ (hp.ne ha) (fun _ z => nomatch z) upd_same⟩, .inr ⟨xs, ks, .inl rfl, hz, fun i x h => hx i x H' h, hc⟩⟩
/-- .. of one thing that is a list or a tuple itself -/
theorem odd_nest {k : Kd} {a : Addr} (hp : Held p H) (ha : H a = none) (hv : ∀ H', Kp p H H' → KdAt H' v k) (hk : isWithK 0 1000 k = false) : OddAt p (upd H a (.lst [v])) (.ref a) := fun H' s => by
  refine ⟨.lst [v], ⟨a, rfl, s a _ (hp.ne ha) (fun _ z => nomatch z) upd_same⟩, .inr ⟨[v], fun _ => k, .inl rfl, by show 1 ≤ 1000; decide, fun i x h => ?_, ?_⟩⟩
  · have hi : i = 0 := by
      have := (List.getElem?_eq_some_iff.mp h).1
      simp at this
      exact this
    subst hi
    cases h
    exact hv H' ((Kp.same (same_upd ha)).trans s)
  · unfold cOk
    show (_ && (List.range 1).all _) = false
    rw [show (List.range 1) = [0] from rfl]
    show (_ && (isWithK 0 1000 k && true)) = false
    rw [hk]
    exact Bool.and_false _
theorem far_flat {k : Kd} (hk : ∀ H', KdAt H' v k) (hl : isWithK 0 250 k = false) : FarAt p H v := fun H' _ => ⟨k, hk H', hl⟩
theorem far_tup {xs : List V} {a : Addr} (hp : Held p H) (ha : H a = none) : FarAt p (upd H a (.tup xs)) (.ref a) := fun H' s => ⟨.tup xs, ⟨a, rfl, s a _ (hp.ne ha) (fun _ z => nomatch z) upd_same⟩, rfl⟩
end
theorem all_cons {P : V → Prop} {x : V} {l : List V} (h : P x) (h2 : ∀ y ∈ l, P y) : ∀ y ∈ x :: l, P y := fun y hy => by
  rcases List.mem_cons.mp hy with e | e
  · rw [e]
    exact h
  · exact h2 y e
theorem all_nil {P : V → Prop} : ∀ y ∈ ([] : List V), P y := fun _ z => nomatch z
/-! ### a call with keywords alone -/
structure DnK (P : Program) (w : World) (K : PySem.W.Frag) (mg : Str → Option Value) (base : Heap) (CX : CXT) (k : Nat) (x : Str) (ps ks : List Str) (g : List Value → List Value → List Value) (gV : List V → List V → List V) (sp : Sp) : Prop where
  ex : ∃ (f : Addr) (fd : FuncData), FnOk P w K mg base CX k f fd ps sp ∧ mg x = some (.ref f) ∧ PySem.W.keepIn K (.ref f) = true ∧ KBinds K fd ps ks g gV
theorem pe_dNK {X : Cx} {k j : Nat} {ps ks : List Str} {sp : Sp} {x : Str} {p pos : Pos} {kws : List Keyword} {t : TA} {g : List Value → List Value → List Value} {gV : List V → List V → List V} (D : DnK X.prog X.w X.K X.mg X.base (L2.CX X.prog X.w) j x ps ks g gV sp) (hr : Room k X.A) (hg : Gl X x) (hkw : PK X kws t) (hj : j ≤ k := by decide)
    (hall : (backToKw pos (keywordEach kws X.env)).all (·.1.isSome) = true := by rfl) (hks : (backToKw pos (keywordEach kws X.env)).filterMap (·.1) = ks := by rfl) (hdb : (x == ("__debug__" : Str)) = false := by decide)
    (hpl : ((backTo pos (starEach [] X.env)).any (·.1) || (backToKw pos (keywordEach kws X.env)).any (·.1.isNone)) = false := by rfl) : PE X (.Call (.Name x p) [] kws pos) (tCallK sp gV E0 tNil t) := by
  obtain ⟨f, fd, F, hm, hk, hb⟩ := D.ex
  exact pe_callKw F (hr.mono hj) hg hm hk hb passL hkw hall hks hdb hpl
/-- two keywords, told the other way round -/
def gK {α : Type} (us ws : List α) : List α := match us, ws with
  | [], [d, c] => [c, d]
  | _, _ => []
theorem gK_binds {K : PySem.W.Frag} {fd : FuncData} {x y : Str} (h : ∀ u v : Value, bindArgs fd ⟨[], [(y, v), (x, u)]⟩ = pure [(x, u), (y, v)]) : KBinds K fd [x, y] [y, x] gK gK := by
  refine ⟨fun s us ws _ hl => ?_, fun {vs us zs ws} r rz => ?_⟩
  · match us, ws, hl with
    | [], [d, c], _ => exact .of_eq (h c d)
    | [], [], hl => cases hl
    | [], [_], hl => cases hl
    | [], _ :: _ :: _ :: _, hl => cases hl
    | _ :: _, _, hl => cases hl
  · cases r with
    | cons _ _ => exact .nil
    | nil =>
      cases rz with
      | nil => exact .nil
      | cons a r2 =>
        cases r2 with
        | nil => exact .nil
        | cons b r3 =>
          cases r3 with
          | nil => exact .cons b (.cons a .nil)
          | cons _ _ => exact .nil
end K52
/-! The law behind its three turns. -/
namespace K52
open PySem L2
abbrev NL : List Str := ["_law_script", "_law_crate_here", "_law_turn", "_law_counts", "_law_days", "_law_due", "_law_heard_here", "_law_far", "_law_goods", "_law_most", "_law_odd", "_law_good"]
theorem scLaw : FnScope NL ["_law_script"] (defScope sLaw) := ⟨rfl, rfl, rfl, by decide +kernel, rfl, by decide +kernel, by decide +kernel⟩
/-- what the law leans on -/
structure LawD (P : Program) (w : World) (K : PySem.W.Frag) (mg : Str → Option Value) (base : Heap) (CB CT CP : Addr) : Prop where
  n : Nm mg
  cr : Dn P w K mg base CX0 1 "_law_crate" ["_law_script"] (spCrate K)
  fi : Dn P w K mg base CX0 1 "_law_fill" ["_law_crate_here", "_law_many"] spFill
  oo : Dn P w K mg base CX0 2 "_law_one_of" ["_law_crate_here", "_law_some"] (spOneOf K)
  lr : Dn P w K mg base CX0 3 "_law_rest" ["_law_counts", "_law_days"] (spLRest K)
  br : Dn P w K mg base (L2.CX P w) 4 "best_rest" ["counts", "days"] (spBestR CB CT)
  bk : DnK P w K mg base (L2.CX P w) 4 "best_rest" ["counts", "days"] ["days", "counts"] gK gK (spBestR CB CT)
  bp : Dn P w K mg base CX0 5 "best_price" ["goods", "days"] spBestP
  sr : Dn P w K mg base CX0 5 "_law_sum_right" ["_law_counts", "_law_days"] (spSumR K)
  hc : HearC K mg CB CT CP
  he : ∃ (g : Addr) (fd : FuncData), Fun K "_law_heard" "_law_heard" sHeard g fd ∧ mg "_law_heard" = some (.ref g) ∧ Binds K fd ["_law_ask"] []
section
variable {X : Cx} {CB CT CP c T : Addr}
theorem pe_hear {params : Arguments} {body : Expr} {scope : Scope} {t : XK → TE} {p lpos pos : Pos} (L : LawD X.prog X.w X.K X.mg X.base CB CT CP) (TB : LamX.TabB X.base X.mg c T) (hcode : X.env.code = .ref c) (hr : Room 7 X.A) (hg : Gl X "_law_heard")
    (Lm : LamX.LamS X.env.scope scope) (hdef : defaultsOf params X.env = ([], [])) (hbind : ∀ (q : Str) (cl : List (Str × Addr)) (pm cv ctv : Value), bindArgs (PySem.W.kla_fn "<lambda>" q params body scope cl pm cv ctv) ⟨[], []⟩ = pure [])
    (hbody : ∀ (A : Around) (outer : List Env) (s : Shared) (H : Hp) (E : XK) (f c' : Addr), Room 5 (A.deeper (LamX.lamEnv X scope s.heap.objs.size f c')) → PE (LamX.lamCx X A outer s H E scope f c') body (t E)) :
    PE X (.Call (.Name "_law_heard" p) [.Lambda params body scope lpos] [] pos) (LamX.tLam [(T, X.env.qual ++ "<lambda>")] (TTh CB CT) t) := by
  obtain ⟨g, fd, F, hm, hb⟩ := L.he
  obtain ⟨oc, od, kV, doc, pm, an, cdv, ct, osl, rfl, lk, hcd⟩ := F.ex
  exact LamX.pe_lamcall hg hm F.kp lk hcd hb scHeard rfl (.inl rfl) (heard_gives L.hc) TB hcode (List.mem_singleton.mpr rfl) (fun q hq _ => by rw [List.mem_singleton.mp hq]) hr Lm hdef hbind hbody
theorem pe_hearD {params : Arguments} {body : Expr} {scope : Scope} {t : XK → TE} {p lpos pos : Pos} {z : Int} {jc : Nat} {pc : Pos} {y : Str} (L : LawD X.prog X.w X.K X.mg X.base CB CT CP) (TB : LamX.TabB X.base X.mg c T) (hcode : X.env.code = .ref c) (hr : Room 7 X.A) (hg : Gl X "_law_heard")
    (Lm : LamN X.N X.env.scope scope) (hdf : params.defaults = [.Constant (.int z) jc pc]) (hkd : params.kw_defaults = []) (hbind : ∀ t : Tok, LamB params body scope [.int z t] [(y, .int z t)])
    (hbody : ∀ (A : Around) (outer : List Env) (s : Shared) (H : Hp) (E : XK) (f c' : Addr), Room 5 (A.deeper (LamX.lamEnv X scope s.heap.objs.size f c')) → PE (LamX.lamCx X A outer s H E scope f c') body (t E)) :
    PE X (.Call (.Name "_law_heard" p) [.Lambda params body scope lpos] [] pos) (LamX.tLam [(T, X.env.qual ++ "<lambda>")] (TTh CB CT) t) := by
  obtain ⟨g, fd, F, hm, hb⟩ := L.he
  obtain ⟨oc, od, kV, doc, pm, an, cdv, ct, osl, rfl, lk, hcd⟩ := F.ex
  exact pe_lamcallD hg hm F.kp lk hcd hb scHeard rfl (.inl rfl) (heard_gives L.hc) TB hcode (List.mem_singleton.mpr rfl) (fun q hq _ => by rw [List.mem_singleton.mp hq]) hr Lm hdf hkd hbind hbody
theorem ne_refl {K : PySem.W.Frag} {x y : V} {H : Hp} {Q : VK} {d : PyData} (hx : Dp K H x d) (hy : Dp K H y d) (sh : SeqAt.shaped d = true) (q : Q (.bl false) H) : rNeD K x y H Q := by
  refine ⟨d, d, hx, hy, sh, sh, ?_⟩
  rw [SeqAt.eqv_refl _ (SeqAt.canLay_of_shaped sh)]
  exact q
theorem eq_refl {K : PySem.W.Frag} {x y : V} {H : Hp} {Q : VK} {d : PyData} (hx : Dp K H x d) (hy : Dp K H y d) (sh : SeqAt.shaped d = true) (q : Q (.bl true) H) : rEqD K x y H Q := by
  refine ⟨d, d, hx, hy, sh, sh, ?_⟩
  rw [SeqAt.eqv_refl _ (SeqAt.canLay_of_shaped sh)]
  exact q
end
/-! ### goods and days -/
def Pair (g m : Nat) : Prop := (g = 5 ∧ m = 16) ∨ (g = 4 ∧ m = 29) ∨ (g = 3 ∧ m = 98)
def zeros (g : Nat) : List Nat := List.replicate g 0
theorem zeros_V (g : Nat) : (List.replicate (g : Int).toNat [V.int 0]).flatten = nV (zeros g) := by
  unfold nV zeros
  rw [Int.toNat_natCast, rep_flat, List.map_replicate]
  rfl
theorem zeros_sum (g : Nat) : (zeros g).sum = 0 := by
  unfold zeros
  rw [List.sum_replicate_nat, Nat.mul_zero]
theorem zeros_good {g : Nat} {k : Kd} (h1 : 1 ≤ g) (h5 : g ≤ 5) (hk : k = .lst (nV (zeros g))) : goodC k (zeros g) := by
  have e : (zeros g).length = g := List.length_replicate
  refine ⟨.inl hk, by omega, by omega, fun x hx => ?_⟩
  rw [List.eq_of_mem_replicate hx]
  exact Nat.zero_le _
structure PairOk (g m : Nat) : Prop where
  g1 : 1 ≤ g
  g5 : g ≤ 5
  m98 : m ≤ 98
  few : lotsOf (zeros g) m ≤ 5000
  many : 5000 < lotsOf (zeros g) (m + 1)
  like : S m (zeros g) = pf m (g - 1)
theorem pair_ok {g m : Nat} (h : Pair g m) : PairOk g m := by
  rcases h with ⟨rfl, rfl⟩ | ⟨rfl, rfl⟩ | ⟨rfl, rfl⟩
  · exact ⟨by decide, by decide, by decide, by decide +kernel, by decide +kernel, alike_ok alike_54⟩
  · exact ⟨by decide, by decide, by decide, by decide +kernel, by decide +kernel, alike_ok alike_43⟩
  · exact ⟨by decide, by decide, by decide, by decide +kernel, by decide +kernel, alike_ok alike_32⟩
end K52
/-! The law behind its three turns: its walk. -/
namespace K52
open PySem L2
section
variable {P : Program} {w : World} {K : PySem.W.Frag} {mg : Str → Option Value} {base : Heap} {CB CT CP c T fa a : Addr} {A : Around} {outer : List Env} {s : Shared} {H0 : Hp} {E : XK}
theorem law_tail2 (L : LawD P w K mg base CB CT CP) (TB : LamX.TabB base mg c T) (hr : Room 7 (A.deeper (PyProof.Rows.envOfC "law" (defScope sLaw) s.heap.objs.size fa (.ref c)))) : ∃ Tm, PSs (cxOf CX0 P w K mg base NL "law" (defScope sLaw) fa (.ref c) A outer s H0 E).nox ((defBody sLaw).drop 5) Tm ∧
    ∀ (p q0 : Addr) (Q : VK) (x2 x3 x4 x5 x6 x7 x10 x11 : Option V) (g m : Nat) (H : Hp) (n : Nat), n ≤ 200 → 1 ≤ g → g ≤ 5 → Live [(T, (cxOf CX0 P w K mg base NL "law" (defScope sLaw) fa (.ref c) A outer s H0 E).nox.env.qual ++ "<lambda>")] p q0 n H → (∀ H', Q (.bl true) H') →
      Tm { nx := fun _ H' => Q .non H', rt := Q } [some (.ref a), some (.ref p), x2, x3, x4, x5, x6, x7, some (.int (g : Int)), some (.int (m : Int)), x10, x11] H := by
  refine ⟨_, (pss_cons (ps_set (i := 10) scLaw.nd rfl (.inr rfl) (pe_d L.oo hr (by rfl) (pa_cons (pv 1) (pa_cons (pe_lst (pa_cons pe_non (pa_cons (pe_lst pa_nil) (pa_cons (pe_op op_rep (pe_lst (pa_cons pe_int pa_nil)) pe_int) (pa_cons (pe_lst (pa_cons pe_int (pa_cons (pe_un un_neg pe_int) pa_nil)))
        (pa_cons (pe_lst (pa_cons pe_int (pa_cons pe_bl pa_nil))) (pa_cons pe_str (pa_cons pe_int (pa_cons pe_dnewK (pa_cons (pe_lst (pa_cons pe_int pa_nil)) (pa_cons (pe_lst (pa_cons (pe_tup (pa_cons pe_int (pa_cons pe_int pa_nil))) pa_nil)) (pa_cons (pe_lst (pa_cons (pe_lst (pa_cons pe_int pa_nil)) pa_nil)) pa_nil)))))))))))) pa_nil))))
    (pss_cons (ps_set (i := 7) scLaw.nd rfl (.inr rfl) (pe_d L.oo hr (by rfl) (pa_cons (pv 1) (pa_cons (pe_lst (pa_cons (pe_un un_neg pe_int) (pa_cons pe_int (pa_cons pe_non (pa_cons pe_bl (pa_cons pe_str (pa_cons (pe_tup (pa_cons pe_int (pa_cons pe_int pa_nil))) pa_nil))))))) pa_nil))))
    (pss_cons (ps_set (i := 6) scLaw.nd rfl (.inl rfl) (pe_lst (pa_cons
        (pe_hear L TB rfl hr (by rfl) (LamX.lamS_by (sc := defScope sLaw) (by decide +kernel)) (by rfl) (fun _ _ _ _ _ => rfl) (fun A outer s H E f c' hr2 => pe_dX (E := E) L.br hr2 (by rfl) (takes_of rfl rfl rfl rfl) (pa_cons (pv 10) (pa_cons (pv 7) pa_nil)))) (pa_cons
        (pe_hearD (y := "_law_a1") L TB rfl hr (by rfl) (lamN_by (N := NL) (sc := defScope sLaw) (by decide +kernel)) (by rfl) (by rfl) (fun t => ⟨fun y hy => (by rw [List.mem_singleton.mp hy]; show List.lookup ("_law_a1" : Str) _ = _; decide +kernel), fun _ _ _ _ _ _ _ => ⟨_, rfl, rfl⟩⟩) (fun A outer s H E f c' hr2 => pe_dX (E := E) L.br hr2 (by rfl) (takes_of rfl rfl rfl rfl) (pa_cons (pe_op op_rep (pe_lst (pa_cons pe_int pa_nil)) (pv 8)) (pa_cons (pv 7) pa_nil)))) (pa_cons
        (pe_hearD (y := "_law_a2") L TB rfl hr (by rfl) (lamN_by (N := NL) (sc := defScope sLaw) (by decide +kernel)) (by rfl) (by rfl) (fun t => ⟨fun y hy => (by rw [List.mem_singleton.mp hy]; show List.lookup ("_law_a2" : Str) _ = _; decide +kernel), fun _ _ _ _ _ _ _ => ⟨_, rfl, rfl⟩⟩) (fun A outer s H E f c' hr2 => pe_dX (E := E) L.br hr2 (by rfl) (takes_of rfl rfl rfl rfl) (pa_cons (pv 10) (pa_cons pe_int pa_nil)))) pa_nil)))))
    (pss_one (ps_ret (pe_cmpR (op_eqD hr.units) (pv 6) (pe_lst (pa_cons (pe_tup (pa_cons pe_str (pa_cons pe_str pa_nil))) (pa_cons (pe_tup (pa_cons pe_str (pa_cons pe_str pa_nil))) (pa_cons (pe_tup (pa_cons pe_str (pa_cons pe_str pa_nil))) pa_nil)))) (nomark _))))))), ?_⟩
  intro p q0 Q x2 x3 x4 x5 x6 x7 x10 x11 g m H n hn hg1 hg5 lv fin
  have hp : Held p H := lv.crate.at
  -- the odd counts
  refine ⟨.ref p, rfl, ⟨by show 0 ≤ sizeLine; decide, fun a1 n1 => ⟨by show 1 ≤ sizeLine; decide, fun b2 m2 => ⟨b2, 6, [V.int 1], rfl, rfl, upd_same, by decide, by decide, by decide, fun a2 n2 => ⟨1, rfl, ⟨by show 2 ≤ sizeLine; decide, fun a3 n3 => ⟨by show 2 ≤ sizeLine; decide, fun a4 n4 => fun a7 n7 => ⟨by show 1 ≤ sizeLine; decide, fun a8 n8 =>
    ⟨by show 2 ≤ sizeLine; decide, fun b9 m9 => ⟨by show 1 ≤ sizeLine; decide, fun a9 n9 => ⟨by show 1 ≤ sizeLine; decide, fun b10 m10 => ⟨by show 1 ≤ sizeLine; decide, fun a10 n10 => ⟨by show 11 ≤ sizeLine; decide, fun aL nL => ?_⟩⟩⟩⟩⟩⟩⟩⟩⟩⟩⟩⟩⟩
  have sm1 := same_upd (o := .lst []) n1
  have sm2a := same_upd (o := .lst [V.int 1]) m2
  have sm2 := same_upd (o := .lst (List.replicate (6 : Int).toNat [V.int 1]).flatten) n2
  have sm3 := same_upd (o := .lst [V.int 1, V.int (-1)]) n3
  have sm4 := same_upd (o := .lst [V.int 1, V.bl true]) n4
  have sm7 := same_upd (o := .dK []) n7
  have sm8 := same_upd (o := .lst [V.int 1001]) n8
  have sm9a := same_upd (o := .tup [V.int 1, V.int 2]) m9
  have sm9 := same_upd (o := .lst [V.ref b9]) n9
  have sm10a := same_upd (o := .lst [V.int 1]) m10
  have sm10 := same_upd (o := .lst [V.ref b10]) n10
  have smL := same_upd (o := .lst [.non, .ref a1, .ref a2, .ref a3, .ref a4, .str "11", .int 5, .ref a7, .ref a8, .ref a9, .ref a10]) nL
  have t9 := sm10a.trans (sm10.trans smL)
  have t8 := sm9a.trans (sm9.trans t9)
  have t7 := sm8.trans t8
  have t4 := sm7.trans t7
  have t3 := sm4.trans t4
  have t2 := sm3.trans t3
  have t1 := sm2a.trans (sm2.trans t2)
  have h1 := hp.same sm1
  have h2a := h1.same sm2a
  have h2 := h2a.same sm2
  have h3 := h2.same sm3
  have h4 := h3.same sm4
  have h7 := h4.same sm7
  have h8 := h7.same sm8
  have h9a := h8.same sm9a
  have h9 := h9a.same sm9
  have h10a := h9.same sm10a
  have h10 := h10a.same sm10
  have o1 := (odd_list (xs := []) (ks := fun _ => .non) hp n1 (by decide) (fun i x H' h => by cases h) (by decide)).to (Kp.same t1)
  have e6 : (List.replicate (6 : Int).toNat [V.int 1]).flatten = [V.int 1, V.int 1, V.int 1, V.int 1, V.int 1, V.int 1] := rfl
  have o2 := (odd_list (xs := (List.replicate (6 : Int).toNat [V.int 1]).flatten) (ks := fun _ => .int 1) h2a n2 (by rw [e6]; show 6 ≤ 1000; decide) (fun i x H' h => by
    rw [e6] at h
    have := List.mem_of_getElem? h
    simp only [List.mem_cons, List.not_mem_nil, or_false, or_self] at this
    exact this) (by rw [e6]; rfl)).to (Kp.same t2)
  have o3 := (odd_list (xs := [V.int 1, V.int (-1)]) (ks := fun i => if i = 0 then .int 1 else .int (-1)) h2 n3 (by show 2 ≤ 1000; decide) (fun i x H' h => by
    match i, h with
    | 0, h => cases h; rfl
    | 1, h => cases h; rfl
    | _ + 2, h => cases h) (by decide +kernel)).to (Kp.same t3)
  have o4 := (odd_list (xs := [V.int 1, V.bl true]) (ks := fun i => if i = 0 then .int 1 else .bl true) h3 n4 (by show 2 ≤ 1000; decide) (fun i x H' h => by
    match i, h with
    | 0, h => cases h; rfl
    | 1, h => cases h; rfl
    | _ + 2, h => cases h) (by decide +kernel)).to (Kp.same t4)
  have o8 := (odd_list (xs := [V.int 1001]) (ks := fun _ => .int 1001) h7 n8 (by show 1 ≤ 1000; decide) (fun i x H' h => by
    match i, h with
    | 0, h => cases h; rfl
    | _ + 1, h => cases h) (by decide +kernel)).to (Kp.same t8)
  have o9 := (odd_nest (v := .ref b9) (k := .tup [V.int 1, V.int 2]) h9a n9 (fun H' k => ⟨b9, rfl, k _ _ (h8.ne m9) (fun _ z => nomatch z) upd_same⟩) rfl).to (Kp.same t9)
  have o10 := (odd_nest (v := .ref b10) (k := .lst [V.int 1]) h10a n10 (fun H' k => ⟨b10, rfl, k _ _ (h9.ne m10) (fun _ z => nomatch z) upd_same⟩) rfl).to (Kp.same smL)
  have o7 : OddAt p _ (.ref a7) := fun H' k => ⟨.dct, ⟨a7, rfl, k _ _ (h4.ne n7) (fun _ z => nomatch z) (t7 _ _ upd_same)⟩, .inl rfl⟩
  have lvL := lv.same (sm1.trans t1)
  refine ⟨p, q0, aL, n, _, rfl, lvL.crate, h10.ne nL, upd_same, by omega, by show 0 < 11; decide, by show 11 ≤ 1000; decide, fun HA ra vo sbA crA hva => ?_⟩
  have lvA := lvL.sb sbA crA
  have oV := all_cons (odd_flat (v := .non) (k := .non) (fun _ => rfl) rfl) (all_cons o1 (all_cons o2 (all_cons o3 (all_cons o4 (all_cons (odd_flat (v := .str "11") (k := .str "11") (fun _ => rfl) rfl) (all_cons (odd_flat (v := .int 5) (k := .int 5) (fun _ => rfl) rfl) (all_cons o7 (all_cons o8 (all_cons o9 (all_cons o10 all_nil)))))))))) vo (List.mem_of_getElem? hva)
  have ov := oV.to (Kp.sb sbA)
  have hpA : Held p HA := lvA.crate.at
  clear oV o1 o2 o3 o4 o7 o8 o9 o10 h1 h2a h2 h3 h4 h7 h8 h9a h9 h10a h10 t1 t2 t3 t4 t7 t8 t9 sm1 sm2a sm2 sm3 sm4 sm7 sm8 sm9a sm9 sm10a sm10 smL hva sbA
  -- the days that are far off
  refine ⟨.ref p, rfl, ⟨1, rfl, ⟨by show 2 ≤ sizeLine; decide, fun a5 n5 => ⟨by show 6 ≤ sizeLine; decide, fun aF nF => ?_⟩⟩⟩⟩
  have s5 := same_upd (o := .tup [V.int 3, V.int 2]) n5
  have sF := same_upd (o := .lst [.int (-1), .int 251, .non, .bl true, .str "2", .ref a5]) nF
  have f5 := (far_tup (xs := [V.int 3, V.int 2]) hpA n5).to (Kp.same sF)
  have lvF := lvA.same (s5.trans sF)
  refine ⟨p, q0, aF, n + 1, _, rfl, lvF.crate, (hpA.same s5).ne nF, upd_same, by omega, by show 0 < 6; decide, by show 6 ≤ 1000; decide, fun HB rb vf sbB crB hvb => ?_⟩
  have lvB := lvF.sb sbB crB
  have fV := all_cons (far_flat (v := .int (-1)) (k := .int (-1)) (fun _ => rfl) rfl) (all_cons (far_flat (v := .int 251) (k := .int 251) (fun _ => rfl) rfl) (all_cons (far_flat (v := .non) (k := .non) (fun _ => rfl) rfl) (all_cons (far_flat (v := .bl true) (k := .bl true) (fun _ => rfl) rfl) (all_cons (far_flat (v := .str "2") (k := .str "2") (fun _ => rfl) rfl) (all_cons f5 all_nil))))) vf (List.mem_of_getElem? hvb)
  have fv := fV.to (Kp.sb sbB)
  have ovB := ov.to ((Kp.same (s5.trans sF)).trans (Kp.sb sbB))
  clear fV f5 hvb ov
  -- the three that are heard
  refine ⟨lvB.tabs, fun H1 e1 t1 => ⟨_, rfl, _, rfl, ?_⟩⟩
  have lv1 := lvB.ext e1 t1
  obtain ⟨k1, hk1, hb1⟩ := ovB H1 (Kp.ext e1)
  obtain ⟨l1, hl1, hf1⟩ := fv H1 (Kp.ext e1)
  refine ⟨vo, vf, k1, l1, rfl, hk1, hl1, .inl ⟨hb1, fun d2 H2 s2 hd2 => .inl ⟨rfl, d2, "counts", rfl, hd2, fun H3 ta s3 hta => ?_⟩⟩⟩
  have lv3 := lv1.same (s2.trans s3)
  have k3 : Kp p HB H3 := (Kp.ext e1).trans (Kp.same (s2.trans s3))
  refine ⟨lv3.tabs, fun H4 e4 t4 => ⟨by show 1 ≤ sizeLine; decide, fun q5 m5 => ⟨_, rfl, q5, (g : Int), [V.int 0], rfl, rfl, upd_same, by omega, by omega, ?_, fun q6 m6 => ⟨_, rfl, ?_⟩⟩⟩⟩
  · rw [List.length_singleton, Int.toNat_natCast, sizeLine_eq]
    omega
  have lv4 := lv3.ext e4 t4
  have u5 := same_upd (o := .lst [V.int 0]) m5
  have u6 := same_upd (o := .lst (List.replicate (g : Int).toNat [V.int 0]).flatten) m6
  obtain ⟨l4, hl4, hf4⟩ := fv _ ((k3.trans (Kp.ext e4)).trans (Kp.same (u5.trans u6)))
  refine ⟨.ref q6, vf, .lst (nV (zeros g)), l4, rfl, ⟨q6, rfl, by rw [upd_same, zeros_V]⟩, hl4, .inr (.inl ⟨zeros g, zeros_good hg1 hg5 rfl, hf4, fun d7 H7 s7 hd7 => .inl ⟨rfl, d7, "days", rfl, hd7, fun H8 tb s8 htb => ?_⟩⟩)⟩
  have s48 := (u5.trans u6).trans (s7.trans s8)
  have lv8 := lv4.same s48
  refine ⟨lv8.tabs, fun H9 e9 t9 => ⟨_, rfl, ?_⟩⟩
  have e39 : LamX.ExtN H3 H9 := (e4.trans (.of s48)).trans e9
  obtain ⟨k9, hk9, hb9⟩ := ovB H9 (k3.trans (Kp.ext e39))
  refine ⟨vo, .int 3, k9, .int 3, rfl, hk9, rfl, .inl ⟨hb9, fun d10 H10 s10 hd10 => .inl ⟨rfl, d10, "counts", rfl, hd10, fun H11 tc s11 htc => ⟨by show 3 ≤ sizeLine; decide, fun qL mL => ?_⟩⟩⟩⟩
  have uL := same_upd (o := .lst [V.ref ta, V.ref tb, V.ref tc]) mL
  have s9L := (s10.trans s11).trans uL
  have gA := s9L _ _ (e39 _ _ hta fun _ z => nomatch z)
  have gB := s9L _ _ (e9 _ _ htb fun _ z => nomatch z)
  have gC := uL _ _ htc
  refine ⟨_, rfl, ⟨by show 2 ≤ sizeLine; decide, fun w1 x1 => ⟨by show 2 ≤ sizeLine; decide, fun w2 x2 => ⟨by show 2 ≤ sizeLine; decide, fun w3 x3 => ⟨by show 3 ≤ sizeLine; decide, fun w4 x4 => ?_⟩⟩⟩⟩⟩
  have v1 := same_upd (o := .tup [V.str "number", V.str "counts"]) x1
  have v2 := same_upd (o := .tup [V.str "number", V.str "days"]) x2
  have v3 := same_upd (o := .tup [V.str "number", V.str "counts"]) x3
  have v4 := same_upd (o := .lst [V.ref w1, V.ref w2, V.ref w3]) x4
  have v24 := v2.trans (v3.trans v4)
  have v14 := v1.trans v24
  refine eq_refl (d := .list [.tuple [.str "number", .str "counts"], .tuple [.str "number", .str "days"], .tuple [.str "number", .str "counts"]])
    (.lst (SqL.of (v14 _ _ upd_same)) (.cons (.tup (SqT.of (v14 _ _ gA)) (.cons (.str _) (.cons (.str _) .nil))) (.cons (.tup (SqT.of (v14 _ _ gB)) (.cons (.str _) (.cons (.str _) .nil))) (.cons (.tup (SqT.of (v14 _ _ gC)) (.cons (.str _) (.cons (.str _) .nil))) .nil))))
    (.lst (SqL.of upd_same) (.cons (.tup (SqT.of (v24 _ _ upd_same)) (.cons (.str _) (.cons (.str _) .nil))) (.cons (.tup (SqT.of ((v3.trans v4) _ _ upd_same)) (.cons (.str _) (.cons (.str _) .nil))) (.cons (.tup (SqT.of (v4 _ _ upd_same)) (.cons (.str _) (.cons (.str _) .nil))) .nil))))
    (by decide +kernel) (fin _)
end
end K52
/-! The law behind its three turns: the pair of goods and days. -/
namespace K52
open PySem L2
section
variable {P : Program} {w : World} {K : PySem.W.Frag} {mg : Str → Option Value} {base : Heap} {CB CT CP c T fa a : Addr} {A : Around} {outer : List Env} {s : Shared} {H0 : Hp} {E : XK}
theorem law_tail1 (L : LawD P w K mg base CB CT CP) (TB : LamX.TabB base mg c T) (hr : Room 7 (A.deeper (PyProof.Rows.envOfC "law" (defScope sLaw) s.heap.objs.size fa (.ref c)))) : ∃ Tm, PSs (cxOf CX0 P w K mg base NL "law" (defScope sLaw) fa (.ref c) A outer s H0 E).nox ((defBody sLaw).drop 2) Tm ∧
    ∀ (p q0 : Addr) (Q : VK) (x2 x3 x4 x5 x6 x7 x8 x9 x10 x11 : Option V) (H : Hp) (n : Nat), n ≤ 100 → Live [(T, (cxOf CX0 P w K mg base NL "law" (defScope sLaw) fa (.ref c) A outer s H0 E).nox.env.qual ++ "<lambda>")] p q0 n H → (∀ H', Q (.bl true) H') →
      Tm { nx := fun _ H' => Q .non H', rt := Q } [some (.ref a), some (.ref p), x2, x3, x4, x5, x6, x7, x8, x9, x10, x11] H := by
  obtain ⟨T2, hp2, hq2⟩ := law_tail2 (P := P) (w := w) (K := K) (mg := mg) (base := base) (fa := fa) (a := a) (outer := outer) (H0 := H0) (E := E) L TB hr
  refine ⟨_, pss_cons (ps_asg (pe_d L.oo hr (by rfl) (pa_cons (pv 1) (pa_cons (pe_lst (pa_cons (pe_tup (pa_cons pe_int (pa_cons pe_int pa_nil))) (pa_cons (pe_tup (pa_cons pe_int (pa_cons pe_int pa_nil))) (pa_cons (pe_tup (pa_cons pe_int (pa_cons pe_int pa_nil))) pa_nil)))) pa_nil)))
      (pg_tup rfl (pgs_cons (pg_name (i := 8) scLaw.nd rfl (.inr rfl)) (pgs_cons (pg_name (i := 9) scLaw.nd rfl (.inr rfl)) pgs_nil))))
    (pss_cons (ps_if (pt_cmpR (op_neD hr.units) (pe_hear L TB rfl hr (by rfl) (LamX.lamS_by (sc := defScope sLaw) (by decide +kernel)) (by rfl) (fun _ _ _ _ _ => rfl)
          (fun A outer s H E f c' hr2 => pe_dX (E := E) L.br hr2 (by rfl) (takes_of rfl rfl rfl rfl) (pa_cons (pe_op op_rep (pe_lst (pa_cons pe_int pa_nil)) (pv 8)) (pa_cons (pe_op op_add (pv 9) pe_int) pa_nil))))
        (pe_tup (pa_cons pe_str (pa_cons pe_str (pa_cons pe_int pa_nil)))) (nomark _)) (pss_one (ps_ret pe_bl)) pss_nil)
    (pss_cons (ps_if (PW.pt (pw_and (pt_cmpR op_eq (pe_d L.fi hr (by rfl) (pa_cons (pv 1) (pa_cons pe_int pa_nil))) pe_int (nomark _))
          (pw_and1 (pt_cmpR (op_neD hr.units) (pe_dN L.br hr (by rfl) (pa_cons (pe_op op_rep (pe_lst (pa_cons pe_int pa_nil)) (pv 8)) (pa_cons (pv 9) pa_nil))) (pe_d L.bp hr (by rfl) (pa_cons (pv 8) (pa_cons (pv 9) pa_nil))) (nomark _))))) (pss_one (ps_ret pe_bl)) pss_nil)
    hp2)), ?_⟩
  intro p q0 Q x2 x3 x4 x5 x6 x7 x8 x9 x10 x11 H n hn lv fin
  -- the pair
  refine ⟨.ref p, rfl, ⟨by show 2 ≤ sizeLine; decide, fun q1 n1 => ⟨by show 2 ≤ sizeLine; decide, fun q2 n2 => ⟨by show 2 ≤ sizeLine; decide, fun q3 n3 => ⟨by show 3 ≤ sizeLine; decide, fun q4 n4 => ?_⟩⟩⟩⟩⟩
  have s1 := same_upd (o := .tup [V.int 5, V.int 16]) n1
  have s2 := same_upd (o := .tup [V.int 4, V.int 29]) n2
  have s3 := same_upd (o := .tup [V.int 3, V.int 98]) n3
  have s4 := same_upd (o := .lst [V.ref q1, V.ref q2, V.ref q3]) n4
  have s34 := s3.trans s4
  have s24 := s2.trans s34
  have lv1 := lv.same s1
  have lv2 := lv1.same s2
  have lv3 := lv2.same s3
  have lv4 := lv3.same s4
  refine ⟨p, q0, q4, n, _, rfl, lv4.crate, lv3.ne n4, upd_same, by omega, by show 0 < 3; decide, by show 3 ≤ 1000; decide, fun H5 r x sb5 cr5 hx => ?_⟩
  have lv5 := lv4.sb sb5 cr5
  obtain ⟨q, g, m, rfl, hq, hgm⟩ : ∃ (q : Addr) (g m : Nat), x = .ref q ∧ H5 q = some (.tup [.int (g : Int), .int (m : Int)]) ∧ Pair g m := by
    match r, hx with
    | 0, hx => cases hx; exact ⟨q1, 5, 16, rfl, sb5 _ _ (lv.ne n1) (s24 _ _ upd_same), .inl ⟨rfl, rfl⟩⟩
    | 1, hx => cases hx; exact ⟨q2, 4, 29, rfl, sb5 _ _ (lv1.ne n2) (s34 _ _ upd_same), .inr (.inl ⟨rfl, rfl⟩)⟩
    | 2, hx => cases hx; exact ⟨q3, 3, 98, rfl, sb5 _ _ (lv2.ne n3) (s4 _ _ upd_same), .inr (.inr ⟨rfl, rfl⟩)⟩
    | _ + 3, hx => cases hx
  have pk := pair_ok hgm
  have hg5 := pk.g5
  have hg1 := pk.g1
  have hm98 := pk.m98
  refine ⟨q, _, rfl, SqT.of hq, rfl, _, _, rfl, _, _, rfl, rfl, ?_⟩
  -- too many
  refine ⟨lv5.tabs, fun H6 e6 t6 => ⟨by show 1 ≤ sizeLine; decide, fun q5 n5 => ⟨_, rfl, q5, (g : Int), [V.int 0], rfl, rfl, upd_same, by omega, by omega, ?_, fun q6 n6 => ⟨_, rfl, _, _, rfl, rfl, ?_⟩⟩⟩⟩
  · rw [List.length_singleton, Int.toNat_natCast, sizeLine_eq]
    omega
  have lv6 := lv5.ext e6 t6
  have s5 := same_upd (o := .lst [V.int 0]) n5
  have s6 := same_upd (o := .lst (List.replicate (g : Int).toNat [V.int 0]).flatten) n6
  refine ⟨.ref q6, .int ((m : Int) + 1), .lst (nV (zeros g)), .int (((m + 1 : Nat) : Int)), rfl, ⟨q6, rfl, by rw [upd_same, zeros_V]⟩, rfl, .inr (.inr (.inl ⟨zeros g, m + 1, zeros_good hg1 hg5 rfl, rfl, by omega, pk.many, fun d7 H7 s7 hd7 => .inr ⟨rfl, d7, "counts", 5000, rfl, hd7, fun H8 t8 s8 ht8 => ?_⟩⟩))⟩
  refine ⟨by show 3 ≤ sizeLine; decide, fun q9 n9 => ne_refl (d := .tuple [.str "many", .str "counts", .int 5000]) (.tup (SqT.of (same_upd n9 _ _ ht8)) (.cons (.str _) (.cons (.str _) (.cons (.int _) .nil)))) (.tup (SqT.of upd_same) (.cons (.str _) (.cons (.str _) (.cons (.int _) .nil)))) (by decide +kernel) ⟨_, rfl, iteF ?_⟩⟩
  have lv9 := lv6.same ((s5.trans s6).trans ((s7.trans s8).trans (same_upd (o := .tup [V.str "many", V.str "counts", V.int 5000]) n9)))
  -- as many as may be
  refine ⟨.ref p, rfl, p, q0, n + 1, 25, rfl, lv9.crate, by omega, by decide, by decide, fun HA ra sbA crA hra => ⟨rfl, _, rfl, ?_⟩⟩
  have lvA := lv9.sb sbA crA
  refine ite2 (fun _ => ?_) (fun _ => ?_)
  · refine ⟨by show 1 ≤ sizeLine; decide, fun p5 m5 => ⟨_, rfl, p5, (g : Int), [V.int 0], rfl, rfl, upd_same, by omega, by omega, ?_, fun p6 m6 => ⟨_, rfl, ?_⟩⟩⟩
    · rw [List.length_singleton, Int.toNat_natCast, sizeLine_eq]
      omega
    have u5 := same_upd (o := .lst [V.int 0]) m5
    have u6 := same_upd (o := .lst (List.replicate (g : Int).toNat [V.int 0]).flatten) m6
    refine ⟨.ref p6, .int (m : Int), .lst (nV (zeros g)), .int (m : Int), rfl, ⟨p6, rfl, by rw [upd_same, zeros_V]⟩, rfl, .inr (.inr (.inr ⟨zeros g, m, zeros_good hg1 hg5 rfl, rfl, pk.few, by rw [zeros_sum]; omega, fun HB v sB hv => ⟨_, rfl, _, rfl, g, m, rfl, hg1, by omega, by omega, fun HC v2 sC hv2 => ?_⟩⟩))⟩
    rw [zeros_sum, Nat.zero_add, pk.like] at hv
    exact ne_refl (hv.same sC).dp hv2.dp (numD_shaped _ _) ⟨_, rfl, iteF (hq2 p q0 Q _ _ _ _ _ _ _ _ g m _ (n + 2) (by omega) hg1 hg5 (lvA.same ((u5.trans u6).trans (sB.trans sC))) fin)⟩
  · exact iteF (hq2 p q0 Q _ _ _ _ _ _ _ _ g m _ (n + 2) (by omega) hg1 hg5 lvA fin)
end
end K52
/-! The law: its three turns. -/
namespace K52
open PySem L2
def caps : List Nat := [9, 7, 5, 4, 4]
theorem caps_at {g : Nat} (h : g < 5) : [V.int 9, V.int 7, V.int 5, V.int 4, V.int 4][g]? = some (.int ((caps.getD g 0 : Nat) : Int)) := by
  match g, h with
  | 0, _ => rfl
  | 1, _ => rfl
  | 2, _ => rfl
  | 3, _ => rfl
  | 4, _ => rfl
theorem caps_le : ∀ g, g < 5 → 4 ≤ caps.getD g 0 ∧ caps.getD g 0 ≤ 9 := by decide +kernel
theorem lots_few : ∀ g, g < 5 → ∀ d, d < 9 → ch (d + (1 + g) - 1) (1 + g - 1) ≤ 5000 := by decide +kernel
theorem lots_le {c : List Nat} {g d : Nat} (hg : g < 5) (hl : c.length = 1 + g) (hd : d < 9) : lotsOf c d ≤ 5000 := by
  unfold lotsOf
  rw [hl]
  exact lots_few g hg d hd
theorem sum_le8 : ∀ {c : List Nat}, (∀ x ∈ c, x ≤ 8) → c.sum ≤ 8 * c.length
  | [], _ => Nat.le_refl _
  | x :: r, h => by
    have h1 := h x (List.mem_cons_self ..)
    have h2 := sum_le8 (c := r) fun y hy => h y (List.mem_cons_of_mem _ hy)
    show x + r.sum ≤ 8 * (r.length + 1)
    omega
theorem like_le {g d : Nat} (hg : g < 5) (hd : d < caps.getD g 0) : S d (zeros (1 + g)) = pf d (1 + g - 1) := by
  rw [Nat.add_comm 1 g, Nat.add_sub_cancel]
  exact alike_ok (alike_fin g hg d hd)
theorem num_small {d : Nat} {c : List Nat} (hl : c.length ≤ 8) (h : c.sum + d ≤ 100) : S d c / Nat.gcd (S d c) (tw (c.sum + d)) < 2 ^ 1900 ∧ tw (c.sum + d) / Nat.gcd (S d c) (tw (c.sum + d)) < 2 ^ 1900 :=
  ⟨Nat.lt_of_le_of_lt (Nat.div_le_self _ _) (Nat.lt_trans (S_lt hl h) (Nat.pow_lt_pow_right (by decide) (by decide))), Nat.lt_of_le_of_lt (Nat.div_le_self _ _) (Nat.lt_trans (tw_lt h) (Nat.pow_lt_pow_right (by decide) (by decide)))⟩
section
variable {P : Program} {w : World} {K : PySem.W.Frag} {mg : Str → Option Value} {base : Heap} {CB CT CP c T fa a : Addr} {A : Around} {outer : List Env} {s : Shared} {H0 : Hp} {E : XK}
theorem law_all (L : LawD P w K mg base CB CT CP) (TB : LamX.TabB base mg c T) (hr : Room 7 (A.deeper (PyProof.Rows.envOfC "law" (defScope sLaw) s.heap.objs.size fa (.ref c)))) (hgd : (A.deeper (PyProof.Rows.envOfC "law" (defScope sLaw) s.heap.objs.size fa (.ref c))).guards = some []) :
    ∃ Tm, PSs (cxOf CX0 P w K mg base NL "law" (defScope sLaw) fa (.ref c) A outer s H0 E).nox (defBody sLaw) Tm ∧
    ∀ (Q : VK) (ns : List Int) (H : Hp), H T = some (.tbl #[]) → SqL K H a (ns.map V.int) → ns.length ≤ 63 → (∀ H', Q (.bl true) H') → Tm { nx := fun _ H' => Q .non H', rt := Q } (L2.start NL [.ref a]) H := by
  -- what stands behind the turns
  have key : ∃ T2, PSs (cxOf CX0 P w K mg base NL "law" (defScope sLaw) fa (.ref c) A outer s H0 E).nox ((defBody sLaw).drop 2) T2 ∧
      ∀ (p q0 : Addr) (Q : VK) (x2 x3 x4 x5 x6 x7 x8 x9 x10 x11 : Option V) (H : Hp) (n : Nat), n ≤ 100 → Live [(T, (cxOf CX0 P w K mg base NL "law" (defScope sLaw) fa (.ref c) A outer s H0 E).nox.env.qual ++ "<lambda>")] p q0 n H → (∀ H', Q (.bl true) H') →
        T2 { nx := fun _ H' => Q .non H', rt := Q } [some (.ref a), some (.ref p), x2, x3, x4, x5, x6, x7, x8, x9, x10, x11] H := law_tail1 L TB hr
  obtain ⟨T2, hp2, hq2⟩ := key
  refine ⟨_, pss_cons (ps_set (i := 1) scLaw.nd rfl (.inr rfl) (pe_d L.cr hr (by rfl) (pa_cons (pv 0) pa_nil)))
    (pss_cons (ps_for PassesOwn.never rfl (pi_range1 (by rfl) L.n.rng (pa_cons pe_int pa_nil)) (pg_name (i := 2) scLaw.nd rfl (.inl rfl))
      (pss_cons (ps_set (i := 8) scLaw.nd rfl (.inr rfl) (pe_op op_add pe_int (pe_d L.fi hr (by rfl) (pa_cons (pv 1) (pa_cons pe_int pa_nil)))))
      (pss_cons (ps_setLc (i := 3) (own := [("_law_good", 11)]) (g := gName 11) (tt := tYes) rfl scLaw.nd rfl rfl (sw_true rfl rfl rfl rfl) (pi_range1 (by rfl) L.n.rng (pa_cons (pv 8) pa_nil)) (blkOk_by (own := [("_law_good", 11)]) (N := NL) (sc := defScope sLaw) (by decide +kernel))
          (fun _ _ _ _ _ => pg_name (i := 11) scLaw.nd rfl (.inl rfl)) (fun _ _ _ _ _ => pts_nil)
          (fun _ _ _ _ _ => pe_d L.oo hr (by rfl) (pa_cons (pv 1) (pa_cons (pe_lst (pa_cons pe_int (pa_cons (pe_d L.fi hr (by rfl) (pa_cons (pv 1) (pa_cons pe_int pa_nil))) (pa_cons (pe_d L.fi hr (by rfl) (pa_cons (pv 1) (pa_cons pe_int pa_nil))) pa_nil)))) pa_nil))))
      (pss_cons (ps_set (i := 4) scLaw.nd rfl (.inl rfl) (pe_d L.fi hr (by rfl) (pa_cons (pv 1) (pa_cons (pe_d L.oo hr (by rfl) (pa_cons (pv 1) (pa_cons (pe_lst (pa_cons (pe_ix ix_list (pe_lst (pa_cons pe_int (pa_cons pe_int (pa_cons pe_int (pa_cons pe_int (pa_cons pe_int pa_nil)))))) (pe_op op_sub (pv 8) pe_int) (fun _ _ => rfl))
          (pa_cons pe_int (pa_cons pe_int pa_nil)))) pa_nil))) pa_nil))))
      (pss_cons (ps_set (i := 5) scLaw.nd rfl (.inl rfl) (pe_d L.lr hr (by rfl) (pa_cons (pv 3) (pa_cons (pv 4) pa_nil))))
      (pss_cons (ps_if (pt_cmpR op_ne (pe_callB (call_show hgd hr.units) (by rfl) L.n.repr PyProof.Rows.boot_repr (pa_cons (pe_lst (pa_cons (pe_dN L.br hr (by rfl) (pa_cons (pv 3) (pa_cons (pv 4) pa_nil)))
            (pa_cons (pe_dNK L.bk hr (by rfl) (pk_cons (pv 4) (pk_cons (pe_callTy call_tuple_of (by rfl) L.n.ttup PyProof.Rows.boot_tuple (pa_cons (pv 3) pa_nil)) pk_nil))) pa_nil))) pa_nil))
          (pe_callB (call_show hgd hr.units) (by rfl) L.n.repr PyProof.Rows.boot_repr (pa_cons (pe_lst (pa_cons (pv 5) (pa_cons (pv 5) pa_nil))) pa_nil)) (nomark _)) (pss_one (ps_ret pe_bl)) pss_nil)
      (pss_cons (ps_if (PW.pt (pw_and (pt_cmpR op_gt (pv 4) pe_int (nomark _)) (pw_and1 (pt_not (pt_val (pe_d L.sr hr (by rfl) (pa_cons (pv 3) (pa_cons (pv 4) pa_nil)))))))) (pss_one (ps_ret pe_bl)) pss_nil)
      (pss_one (ps_if (pt_cmpR (op_neD hr.units) (pe_dN L.br hr (by rfl) (pa_cons (pe_op op_rep (pe_lst (pa_cons pe_int pa_nil)) (pv 8)) (pa_cons (pv 4) pa_nil))) (pe_d L.bp hr (by rfl) (pa_cons (pv 8) (pa_cons (pv 4) pa_nil))) (nomark _)) (pss_one (ps_ret pe_bl)) pss_nil))))))))) hp2), ?_⟩
  intro Q ns H hT ha hns fin
  refine ⟨_, rfl, a, ns, rfl, ha, hns, fun H1 p q0 s1 hpn cr1 => ?_⟩
  have lv1 : Live [(T, (cxOf CX0 P w K mg base NL "law" (defScope sLaw) fa (.ref c) A outer s H0 E).nox.env.qual ++ "<lambda>")] p q0 0 H1 := ⟨cr1, fun q hq => by
    rw [List.mem_singleton.mp hq]
    exact ⟨#[], s1 _ _ hT, trivial, fun pos cv h => by cases h⟩⟩
  refine ⟨3, rfl, by decide, by decide, ?_⟩
  refine for_range (lo := 0) (n := (3 : Int).toNat) (fun i σ H' => ∃ (x2 x3 x4 x5 x6 x7 x8 x9 x10 x11 : Option V), σ = [some (.ref a), some (.ref p), x2, x3, x4, x5, x6, x7, x8, x9, x10, x11] ∧ Live [(T, (cxOf CX0 P w K mg base NL "law" (defScope sLaw) fa (.ref c) A outer s H0 E).nox.env.qual ++ "<lambda>")] p q0 (20 * i) H')
    ⟨_, _, _, _, _, _, _, _, _, _, rfl, lv1⟩ ?_ ?_
  · rintro i σ H2 hi ⟨x2, x3, x4, x5, x6, x7, x8, x9, x10, x11, rfl, lv2⟩
    have hi3 : i < 3 := hi
    -- the goods
    refine ⟨.ref p, rfl, p, q0, 20 * i, 5, rfl, lv2.crate, by omega, by decide, by decide, fun H3 g sb3 cr3 hg => ⟨_, _, rfl, rfl, ?_⟩⟩
    have lv3 := lv2.sb sb3 cr3
    -- the counts
    refine ⟨_, rfl, ((1 + g : Nat) : Int), rfl, by omega, by omega, fun D hD => ?_⟩
    have nDp := lv3.ne hD
    have nDq := lv3.ne2 hD
    refine lc_range (lo := 0) (n := ((1 + g : Nat) : Int).toNat) (fun j H4 => ∃ cs : List Nat, cs.length = j ∧ (∀ x ∈ cs, x ≤ 8) ∧ H4 D = some (.lst (nV cs)) ∧ Live _ p q0 (20 * i + 1 + 3 * j) H4)
      ⟨[], rfl, fun x z => (nomatch z), upd_same, lv3.same (same_upd hD)⟩ ?_ ?_
    · rintro j H4 hj ⟨cs, hcl, hc8, hD4, lv4⟩
      rw [Int.toNat_natCast] at hj
      refine ⟨rfl, .ref p, rfl, .ref p, rfl, p, q0, 20 * i + 1 + 3 * j, 4, rfl, lv4.crate, by omega, by decide, by decide, fun H5 r1 sb5 cr5 hr1 => ⟨.ref p, rfl, p, q0, 20 * i + 1 + 3 * j + 1, 9, rfl, cr5, by omega, by decide, by decide, fun H6 r2 sb6 cr6 hr2 => ⟨by show 3 ≤ sizeLine; decide, fun q hq => ?_⟩⟩⟩
      have lv5 := lv4.sb sb5 cr5
      have lv6 := lv5.sb sb6 cr6
      have sq := same_upd (o := .lst [V.int 0, V.int (r1 : Int), V.int (r2 : Int)]) hq
      have lvq := lv6.same sq
      refine ⟨p, q0, q, 20 * i + 1 + 3 * j + 1 + 1, _, rfl, lvq.crate, lv6.ne hq, upd_same, by omega, by show 0 < 3; decide, by show 3 ≤ 1000; decide, fun H7 r x sb7 cr7 hx => ?_⟩
      obtain ⟨y, rfl, hy⟩ : ∃ y : Nat, x = .int (y : Int) ∧ y ≤ 8 := by
        match r, hx with
        | 0, hx => cases hx; exact ⟨0, rfl, by omega⟩
        | 1, hx => cases hx; exact ⟨r1, rfl, by omega⟩
        | 2, hx => cases hx; exact ⟨r2, rfl, by omega⟩
        | _ + 3, hx => cases hx
      have hD7 : H7 D = some (.lst (nV cs)) := sb7 _ _ nDp (sq _ _ (sb6 _ _ nDp (sb5 _ _ nDp hD4)))
      have lv7 := lvq.sb sb7 cr7
      refine ⟨_, hD7, ?_, cs ++ [y], ?_, fun x hx => ?_, ?_, ?_⟩
      · rw [nV_len, hcl, sizeLine_eq]
        omega
      · rw [List.length_append, hcl]
        rfl
      · rcases List.mem_append.mp hx with z | z
        · exact hc8 x z
        · rw [List.mem_singleton.mp z]
          exact hy
      · rw [upd_same, nV_app]
        rfl
      · exact (lv7.put nDp nDq ⟨_, hD7⟩).mono (by omega)
    rintro H4 ⟨cs, hcl, hc8, hD4, lv4⟩
    rw [Int.toNat_natCast] at hcl lv4
    have hs8 := sum_le8 hc8
    have hgoodL : goodC (.lst (nV cs)) cs := ⟨.inl rfl, by omega, by omega, fun x hx => by have := hc8 x hx; omega⟩
    have hgoodT : goodC (.tup (nV cs)) cs := ⟨.inr rfl, by omega, by omega, fun x hx => by have := hc8 x hx; omega⟩
    -- the days
    refine ⟨.ref p, rfl, .ref p, rfl, ⟨by show 5 ≤ sizeLine; decide, fun q1 n1 => ⟨_, rfl, _, _, rfl, rfl, q1, _, _, _, rfl, rfl, SqL.of upd_same, at_of (j := g) (by omega) (caps_at hg), ⟨by show 3 ≤ sizeLine; decide, fun q2 n2 => ?_⟩⟩⟩⟩
    have w1 := same_upd (o := .lst [V.int 9, V.int 7, V.int 5, V.int 4, V.int 4]) n1
    have w2 := same_upd (o := .lst [V.int ((caps.getD g 0 : Nat) : Int), V.int 2, V.int 1]) n2
    have lw1 := lv4.same w1
    have lw2 := lw1.same w2
    have hcap := caps_le g hg
    refine ⟨p, q0, q2, _, _, rfl, lw2.crate, lw1.ne n2, upd_same, by omega, by show 0 < 3; decide, by show 3 ≤ 1000; decide, fun H5 r x sb5 cr5 hx => ?_⟩
    obtain ⟨m, rfl, hm1, hm⟩ : ∃ m : Nat, x = .int (m : Int) ∧ 0 < m ∧ m ≤ caps.getD g 0 := by
      match r, hx with
      | 0, hx => cases hx; exact ⟨_, rfl, by omega, Nat.le_refl _⟩
      | 1, hx => cases hx; exact ⟨2, rfl, by omega, by omega⟩
      | 2, hx => cases hx; exact ⟨1, rfl, by omega, by omega⟩
      | _ + 3, hx => cases hx
    have lv5 := lw2.sb sb5 cr5
    have hD5 : H5 D = some (.lst (nV cs)) := sb5 _ _ nDp (w2 _ _ (w1 _ _ hD4))
    refine ⟨p, q0, _, m, rfl, cr5, by omega, hm1, by omega, fun H6 d sb6 cr6 hd => ?_⟩
    have lv6 := lv5.sb sb6 cr6
    have hD6 : H6 D = some (.lst (nV cs)) := sb6 _ _ nDp hD5
    have hd9 : d < 9 := by omega
    have hsum : cs.sum + d ≤ 100 := by omega
    have hfew := lots_le hg hcl hd9
    obtain ⟨z1, z2⟩ := num_small (d := d) (c := cs) (by omega) hsum
    obtain ⟨y1, y2, y3, y4⟩ := twoD_ok z1 z2
    -- what is due
    refine ⟨_, rfl, _, rfl, D, cs, d, rfl, SqL.of hD6, by omega, by omega, by omega, hsum, fun H7 v7 s7 hv7 => ?_⟩
    -- shown alike
    refine ⟨.ref D, rfl, .int (d : Int), rfl, .ref D, .int (d : Int), .lst (nV cs), .int (d : Int), rfl, ⟨D, rfl, s7 _ _ hD6⟩, rfl, .inr (.inr (.inr ⟨cs, d, hgoodL, rfl, hfew, hsum, fun H8 v8 s8 hv8 => ?_⟩))⟩
    refine ⟨.int (d : Int), rfl, .ref D, rfl, D, nV cs, rfl, .inl ⟨SqL.of (s8 _ _ (s7 _ _ hD6)), fun l hl => ?_⟩⟩
    have sl := same_upd (o := .tup (nV cs)) hl
    refine ⟨.ref l, .int (d : Int), .tup (nV cs), .int (d : Int), rfl, ⟨l, rfl, upd_same⟩, rfl, .inr (.inr (.inr ⟨cs, d, hgoodT, rfl, hfew, hsum, fun H9 v9 s9 hv9 => ?_⟩))⟩
    refine ⟨by show 2 ≤ sizeLine; decide, fun q3 n3 => ?_⟩
    have w3 := same_upd (o := .lst [v8, v9]) n3
    have s89 := (sl.trans s9).trans w3
    refine ⟨q3, twoD _ _, rfl, .lst (SqL.of upd_same) (.cons (hv8.same s89).dp (.cons (hv9.same w3).dp .nil)), y1, y2, y3, y4, ?_⟩
    refine ⟨_, rfl, _, rfl, by show 2 ≤ sizeLine; decide, fun q4 n4 => ?_⟩
    have w4 := same_upd (o := .lst [v7, v7]) n4
    have s79 := (s8.trans s89).trans w4
    have hv7' := hv7.same s79
    refine ⟨q4, twoD _ _, rfl, .lst (SqL.of upd_same) (.cons hv7'.dp (.cons hv7'.dp .nil)), y1, y2, y3, y4, rfl, false, by rw [decide_eq_true rfl]; rfl, iteF ?_⟩
    have lvA := lv6.same (s7.trans s79)
    have hDA := s79 _ _ (s7 _ _ hD6)
    -- the sum, and the best price
    have hlike := like_le hg (show d < caps.getD g 0 by omega)
    have hfewz : lotsOf (zeros (1 + g)) d ≤ 5000 := lots_le hg List.length_replicate hd9
    refine ⟨_, rfl, _, _, rfl, rfl, _, rfl, ite2 (fun hd0 => ?_) (fun _ => iteF ?_)⟩
    · have hd1 : 1 ≤ d := by
        have := of_decide_eq_true hd0
        omega
      refine ⟨_, rfl, _, rfl, D, cs, d, rfl, hDA, hd1, by omega, by omega, hsum, hfew, lots_le hg hcl (by omega), fun HB sB => ⟨_, rfl, iteF ?_⟩⟩
      have lvB := lvA.same sB
      refine ⟨by show 1 ≤ sizeLine; decide, fun p5 m5 => ⟨_, rfl, p5, ((1 + g : Nat) : Int), [V.int 0], rfl, rfl, upd_same, by omega, by omega, ?_, fun p6 m6 => ⟨_, rfl, ?_⟩⟩⟩
      · rw [List.length_singleton, Int.toNat_natCast, sizeLine_eq]
        omega
      have u5 := same_upd (o := .lst [V.int 0]) m5
      have u6 := same_upd (o := .lst (List.replicate ((1 + g : Nat) : Int).toNat [V.int 0]).flatten) m6
      refine ⟨.ref p6, .int (d : Int), .lst (nV (zeros (1 + g))), .int (d : Int), rfl, ⟨p6, rfl, by rw [upd_same, zeros_V]⟩, rfl, .inr (.inr (.inr ⟨zeros (1 + g), d, zeros_good (by omega) (by omega) rfl, rfl, hfewz, by rw [zeros_sum]; omega, fun HC v sC hv => ⟨_, rfl, _, rfl, 1 + g, d, rfl, by omega, by omega, by omega, fun HE v2 sE hv2 => ?_⟩⟩))⟩
      rw [zeros_sum, Nat.zero_add, hlike] at hv
      exact ne_refl (hv.same sE).dp hv2.dp (numD_shaped _ _) ⟨_, rfl, iteF ⟨_, _, _, _, _, _, _, _, _, _, rfl, (lvB.same ((u5.trans u6).trans (sC.trans sE))).mono (by omega)⟩⟩
    · refine ⟨by show 1 ≤ sizeLine; decide, fun p5 m5 => ⟨_, rfl, p5, ((1 + g : Nat) : Int), [V.int 0], rfl, rfl, upd_same, by omega, by omega, ?_, fun p6 m6 => ⟨_, rfl, ?_⟩⟩⟩
      · rw [List.length_singleton, Int.toNat_natCast, sizeLine_eq]
        omega
      have u5 := same_upd (o := .lst [V.int 0]) m5
      have u6 := same_upd (o := .lst (List.replicate ((1 + g : Nat) : Int).toNat [V.int 0]).flatten) m6
      refine ⟨.ref p6, .int (d : Int), .lst (nV (zeros (1 + g))), .int (d : Int), rfl, ⟨p6, rfl, by rw [upd_same, zeros_V]⟩, rfl, .inr (.inr (.inr ⟨zeros (1 + g), d, zeros_good (by omega) (by omega) rfl, rfl, hfewz, by rw [zeros_sum]; omega, fun HC v sC hv => ⟨_, rfl, _, rfl, 1 + g, d, rfl, by omega, by omega, by omega, fun HE v2 sE hv2 => ?_⟩⟩))⟩
      rw [zeros_sum, Nat.zero_add, hlike] at hv
      exact ne_refl (hv.same sE).dp hv2.dp (numD_shaped _ _) ⟨_, rfl, iteF ⟨_, _, _, _, _, _, _, _, _, _, rfl, (lvA.same ((u5.trans u6).trans (sC.trans sE))).mono (by omega)⟩⟩
  · rintro σ H2 ⟨x2, x3, x4, x5, x6, x7, x8, x9, x10, x11, rfl, lv2⟩
    exact hq2 p q0 Q _ _ _ _ _ _ _ _ _ _ H2 60 (by omega) lv2 fin
end
end K52
/-! What the module's top leaves, gathered: each def where it stands, the classes, the names that are still the built-in things. Written by gen_T.py. -/
namespace K52
open PySem L2
section
variable {P : Program} {w : World} {K : PySem.W.Frag} {mg : Str → Option Value} {base h : Heap} {CB CT CP : Addr}
/-- a def of the module's top -/
structure At (K : PySem.W.Frag) (mg : Str → Option Value) (x : Str) (st : Stmt) : Prop where
  ex : ∃ (f : Addr) (fd : FuncData), Fun K x x st f fd ∧ mg x = some (.ref f)
theorem at_mk {x : Str} {st : Stmt} {f : Addr} {oc : Value} {od an : Option Addr} {osl : Array (Option Value)} {kV doc pm cdv ct : Value} (X : K.In h) (G : h.Ns mainGlobals mg) (a : PySem.W.nsIn K mainGlobals x = some (some (.ref f)))
    (l : K.lookup f = some ⟨oc, od, .func (PySem.W.fnOf x x (defArgs st) (defBody st) (defScope st) .none kV doc pm an cdv ct), osl⟩) (c : PySem.W.codeIn K cdv x = true) (k : PySem.W.keepIn K (.ref f) = true) : At K mg x st := ⟨_, _, fun_mk l c k, PySem.W.mg_of X G a⟩
theorem dn_at {CX : CXT} {k : Nat} {x : Str} {st : Stmt} {ps : List Str} {sp : Sp} (A : At K mg x st) (ok : ∀ (f : Addr) (fd : FuncData), Fun K x x st f fd → FnOk P w K mg base CX k f fd ps sp)
    (hb : ∀ (kV doc pm : Value) (an : Option Addr) (cdv ct : Value) (us : List Value), us.length = ps.length → bindArgs (PySem.W.fnOf x x (defArgs st) (defBody st) (defScope st) .none kV doc pm an cdv ct) ⟨us, []⟩ = pure (ps.zip us)) : Dn P w K mg base CX k x ps sp := by
  obtain ⟨f, fd, F, hm⟩ := A.ex
  exact ⟨f, fd, ok f fd F, hm, F.kp, F.binds hb⟩
theorem dnk_at {CX : CXT} {k : Nat} {x : Str} {st : Stmt} {ps ks : List Str} {sp : Sp} {g : List Value → List Value → List Value} {gV : List V → List V → List V} (A : At K mg x st) (ok : ∀ (f : Addr) (fd : FuncData), Fun K x x st f fd → FnOk P w K mg base CX k f fd ps sp)
    (hb : ∀ (kV doc pm : Value) (an : Option Addr) (cdv ct : Value), KBinds K (PySem.W.fnOf x x (defArgs st) (defBody st) (defScope st) .none kV doc pm an cdv ct) ps ks g gV) : DnK P w K mg base CX k x ps ks g gV sp := by
  obtain ⟨f, fd, F, hm⟩ := A.ex
  refine ⟨f, fd, ok f fd F, hm, F.kp, ?_⟩
  obtain ⟨oc, od, kV, doc, pm, an, cdv, ct, osl, rfl, lk, hcd⟩ := F.ex
  exact hb kV doc pm an cdv ct
/-! ### the classes -/
/-- an error class that is ValueError's by its making -/
structure ErrK (K : PySem.W.Frag) (C : Addr) : Prop where
  o : OexC K C
  e : ExcC K C
  x : XfC K C
theorem errK_mk {C N : Addr} {nm q : Str} {bs bm sub : List Value} {sn : List Str} {ab : Bool} {col : Option Bool} {dd : Option Addr} {k0 k1 k2 k3 k5 : Option Value}
    (l : K.lookup C = some (excClassObj nm q C N bs bm true sn sub ab col dd k0 k1 k2 k3 k5 "ValueError.__new__")) (v : PySem.HandSPX.refsVE bm = true) (sa : PySem.W.findIn K (.ref C) "__setattr__" = some (some (.builtin "object.__setattr__")))
    (b : PySem.W.subIn K (.ref C) (.type "BaseException") = some true) (t : PySem.W.typeIn K (.ref C) = some (.type "type")) (k : PySem.W.keepIn K (.ref C) = true)
    (ga : PySem.W.findIn K (.ref C) "__getattribute__" = some (some (.builtin "BaseException.__getattribute__"))) (gg : PySem.W.findIn K (.ref C) "__getattr__" = some none) (d : PySem.W.hasDictIn K C = true)
    (c : PySem.W.findIn K (.ref C) "__class__" = some (some (.builtin "object.__class__"))) (s : PySem.W.specialIn K (.builtin "object.__class__") "__get__" = some (some (.builtin "getset_descriptor.__get__"))) (tk : PySem.W.takesIn K (.builtin "object.__class__") = some true)
    (m : PySem.W.mroIn K C (.type "object") = some true) : ErrK K C :=
  ⟨⟨⟨nm, q, N, bs, bm, sn, sub, ab, col, dd, k0, k1, k2, k3, k5, l, v⟩, sa, b, t, k⟩, ⟨ga, gg, b, d, c, s, tk, m⟩, ⟨ga, gg, b, d⟩⟩
/-- the __init__ of a class of the text -/
structure InitAt (K : PySem.W.Frag) (C : Addr) (q : Str) (st : Stmt) : Prop where
  ex : ∃ (f : Addr) (fd : FuncData), Fun K "__init__" q st f fd ∧ PySem.W.findIn K (.ref C) "__init__" = some (some (.ref f)) ∧ PySem.W.typeIn K (.ref f) = some (.type "function")
theorem init_mk {C : Addr} {q : Str} {st : Stmt} {f : Addr} {oc : Value} {od an : Option Addr} {osl : Array (Option Value)} {kV doc pm cdv ct : Value} (i : PySem.W.findIn K (.ref C) "__init__" = some (some (.ref f))) (t : PySem.W.typeIn K (.ref f) = some (.type "function"))
    (l : K.lookup f = some ⟨oc, od, .func (PySem.W.fnOf "__init__" q (defArgs st) (defBody st) (defScope st) .none kV doc pm an cdv ct), osl⟩) (c : PySem.W.codeIn K cdv q = true) (k : PySem.W.keepIn K (.ref f) = true) : InitAt K C q st := ⟨_, _, fun_mk l c k, i, t⟩
theorem kit_self {C : Addr} (e : ((Value.ref C == Value.ref C) : Bool) = true) : PySem.W.kitOne K (.ref C) (.ref C) = some true := by
  unfold PySem.W.kitOne
  rw [if_pos e]
theorem kit_other {C D : Addr} {b : Bool} (e : ((Value.ref D == Value.ref C) : Bool) = false) (hd : PySem.W.hasDictIn K C = true) (ht : PySem.W.typeIn K (.ref C) = some (.type "type")) (hs : PySem.W.subIn K (.ref D) (.ref C) = some b) : PySem.W.kitOne K (.ref D) (.ref C) = some b := by
  obtain ⟨cd, hc, _⟩ := PySem.W.any_some hd
  have e2 : ((PySem.W.clsIn K C).isSome && PySem.W.typeIn K (.ref C) == some (.type "type")) = true := by rw [hc, ht] <;> rfl
  unfold PySem.W.kitOne
  rw [if_neg (by rw [e]; exact Bool.false_ne_true)]
  show (if ((PySem.W.clsIn K C).isSome && PySem.W.typeIn K (.ref C) == some (.type "type")) = true then PySem.W.subIn K (.ref D) (.ref C) else none) = some b
  rw [if_pos e2]
  exact hs
theorem hear_mk (X : K.In h) (G : h.Ns mainGlobals mg) (aP : PySem.W.nsIn K mainGlobals "PriceError" = some (some (.ref CP))) (aB : PySem.W.nsIn K mainGlobals "BadNumber" = some (some (.ref CB))) (aT : PySem.W.nsIn K mainGlobals "TooMany" = some (some (.ref CT))) (n : mg "isinstance" = none)
    (bP : PySem.W.subIn K (.ref CP) (.type "BaseException") = some true) (dP : PySem.W.hasDictIn K CP = true) (tP : PySem.W.typeIn K (.ref CP) = some (.type "type")) (sB : PySem.W.subIn K (.ref CB) (.ref CP) = some true) (sT : PySem.W.subIn K (.ref CT) (.ref CP) = some true)
    (sBT : PySem.W.subIn K (.ref CB) (.ref CT) = some false) (eT : ((Value.ref CT == Value.ref CT) : Bool) = true) (eB : ((Value.ref CB == Value.ref CB) : Bool) = true) (nBT : ((Value.ref CB == Value.ref CT) : Bool) = false) (EB : ErrK K CB) (ET : ErrK K CT)
    (pB : PySem.W.findIn K (.ref CB) "part" = some none) (pW : PySem.W.findIn K (.ref CT) "what" = some none) (pM : PySem.W.findIn K (.ref CT) "most" = some none) : HearC K mg CB CT CP :=
  { gP := PySem.W.mg_of X G aP, gB := PySem.W.mg_of X G aB, gT := PySem.W.mg_of X G aT, isi := n, mB := PySem.W.exm_ref bP dP tP sB, mT := PySem.W.exm_ref bP dP tP sT, kTT := kit_self eT, kBT := kit_other nBT ET.x.hdC ET.o.tyC sBT, kBB := kit_self eB,
    eB := EB.e, eT := ET.e, xB := EB.x, xT := ET.x, nP := pB, nW := pW, nM := pM }
/-! ### all of it -/
theorem law_defs (N : Nm mg) (HC : HearC K mg CB CT CP) (PI : PInit K mg CP) (KB : ErrK K CB) (KT : ErrK K CT) (iB : InitAt K CB "BadNumber.__init__" sInitB) (iT : InitAt K CT "TooMany.__init__" sInitT)
    (a1 : At K mg "is_integer" sIsInt)
    (a2 : At K mg "is_within" sWithin)
    (a3 : At K mg "is_list" sIsList)
    (a4 : At K mg "common" sCommon)
    (a5 : At K mg "lowest" sLowest)
    (a6 : At K mg "raised" sRaised)
    (a7 : At K mg "tower" sTower)
    (a8 : At K mg "choose_in" sChoose)
    (a9 : At K mg "joined" sJoined)
    (a10 : At K mg "rest_by" sRestBy)
    (a11 : At K mg "need_integer" sNeedInt)
    (a12 : At K mg "need_counted" sNeedC)
    (a13 : At K mg "prices_to" sPrices)
    (a14 : At K mg "all_best" sAllB)
    (a15 : At K mg "best_price" sBestP)
    (a16 : At K mg "best_rest" sBestR)
    (a17 : At K mg "_law_crate" sCrate)
    (a18 : At K mg "_law_fill" sFill)
    (a19 : At K mg "_law_one_of" sOneOf)
    (a20 : At K mg "_law_number" sNumber)
    (a21 : At K mg "_law_halves" sHalves)
    (a22 : At K mg "_law_tower" sLTower)
    (a23 : At K mg "_law_worth" sLWorth)
    (a24 : At K mg "_law_rest" sLRest)
    (a25 : At K mg "_law_sum_right" sSumR)
    (aH : At K mg "_law_heard" sHeard) : LawD P w K mg base CB CT CP := by
  have EB : ErrB P w K mg base CB := by
    obtain ⟨f, fd, F, i, t⟩ := iB.ex
    exact ⟨f, fd, ⟨HC.gB, KB.o, i, t⟩, ok_initB F PI, F.binds (ps := ["self", "part"]) fun _ _ _ _ _ _ us hl => (match us, hl with | [_, _], _ => rfl), HC.nP⟩
  have ET : ErrT P w K mg base CT := by
    obtain ⟨f, fd, F, i, t⟩ := iT.ex
    exact ⟨f, fd, ⟨HC.gT, KT.o, i, t⟩, ok_initT F PI, F.binds (ps := ["self", "what", "most"]) fun _ _ _ _ _ _ us hl => (match us, hl with | [_, _, _], _ => rfl), HC.nW, HC.nM⟩
  have d1 := dn_at (P := P) (w := w) (base := base) a1 (fun f fd F => ok_isInt F N) (fun _ _ _ _ _ _ us hl => match us, hl with | [_], _ => rfl)
  have d2 := dn_at (P := P) (w := w) (base := base) a2 (fun f fd F => ok_within F d1) (fun _ _ _ _ _ _ us hl => match us, hl with | [_, _, _], _ => rfl)
  have d3 := dn_at (P := P) (w := w) (base := base) a3 (fun f fd F => ok_isList F N) (fun _ _ _ _ _ _ us hl => match us, hl with | [_], _ => rfl)
  have d4 := dn_at (P := P) (w := w) (base := base) a4 (fun f fd F => ok_common F N) (fun _ _ _ _ _ _ us hl => match us, hl with | [_, _], _ => rfl)
  have d5 := dn_at (P := P) (w := w) (base := base) a5 (fun f fd F => ok_lowest F d4) (fun _ _ _ _ _ _ us hl => match us, hl with | [_, _], _ => rfl)
  have d6 := dn_at (P := P) (w := w) (base := base) a6 (fun f fd F => ok_raised F) (fun _ _ _ _ _ _ us hl => match us, hl with | [_, _], _ => rfl)
  have d7 := dn_at (P := P) (w := w) (base := base) a7 (fun f fd F => ok_tower F d6) (fun _ _ _ _ _ _ us hl => match us, hl with | [_], _ => rfl)
  have d8 := dn_at (P := P) (w := w) (base := base) a8 (fun f fd F => ok_choose F N) (fun _ _ _ _ _ _ us hl => match us, hl with | [_, _], _ => rfl)
  have d9 := dn_at (P := P) (w := w) (base := base) a9 (fun f fd F => ok_joined F N) (fun _ _ _ _ _ _ us hl => match us, hl with | [_, _, _], _ => rfl)
  have d10 := dn_at (P := P) (w := w) (base := base) a10 (fun f fd F => ok_restBy F N d7 d9 d5) (fun _ _ _ _ _ _ us hl => match us, hl with | [_, _], _ => rfl)
  have d11 := dn_at (P := P) (w := w) (base := base) a11 (fun f fd F => ok_needInt F d2 EB) (fun _ _ _ _ _ _ us hl => match us, hl with | [_, _, _, _], _ => rfl)
  have d12 := dn_at (P := P) (w := w) (base := base) a12 (fun f fd F => ok_needC F N d3 d2 EB) (fun _ _ _ _ _ _ us hl => match us, hl with | [_], _ => rfl)
  have d13 := dn_at (P := P) (w := w) (base := base) a13 (fun f fd F => ok_prices F N d7 d9 d5) (fun _ _ _ _ _ _ us hl => match us, hl with | [_, _], _ => rfl)
  have d14 := dn_at (P := P) (w := w) (base := base) a14 (fun f fd F => ok_allB F N d11 d13) (fun _ _ _ _ _ _ us hl => match us, hl with | [_, _], _ => rfl)
  have d15 := dn_at (P := P) (w := w) (base := base) a15 (fun f fd F => ok_bestP F d14) (fun _ _ _ _ _ _ us hl => match us, hl with | [_, _], _ => rfl)
  have d16 := dn_at (P := P) (w := w) (base := base) a16 (fun f fd F => ok_bestR F N d12 d11 d8 d10 ET) (fun _ _ _ _ _ _ us hl => match us, hl with | [_, _], _ => rfl)
  have d17 := dn_at (P := P) (w := w) (base := base) a17 (fun f fd F => ok_crate F N) (fun _ _ _ _ _ _ us hl => match us, hl with | [_], _ => rfl)
  have d18 := dn_at (P := P) (w := w) (base := base) a18 (fun f fd F => ok_fill F N) (fun _ _ _ _ _ _ us hl => match us, hl with | [_, _], _ => rfl)
  have d19 := dn_at (P := P) (w := w) (base := base) a19 (fun f fd F => ok_oneOf F N d18) (fun _ _ _ _ _ _ us hl => match us, hl with | [_, _], _ => rfl)
  have d20 := dn_at (P := P) (w := w) (base := base) a20 (fun f fd F => ok_number F N) (fun _ _ _ _ _ _ us hl => match us, hl with | [_, _], _ => rfl)
  have d21 := dn_at (P := P) (w := w) (base := base) a21 (fun f fd F => ok_halves F N) (fun _ _ _ _ _ _ us hl => match us, hl with | [_], _ => rfl)
  have d22 := dn_at (P := P) (w := w) (base := base) a22 (fun f fd F => ok_ltower F N) (fun _ _ _ _ _ _ us hl => match us, hl with | [_], _ => rfl)
  have d23 := dn_at (P := P) (w := w) (base := base) a23 (fun f fd F => ok_lworth F N d22) (fun _ _ _ _ _ _ us hl => match us, hl with | [_], _ => rfl)
  have d24 := dn_at (P := P) (w := w) (base := base) a24 (fun f fd F => ok_lrest F N d23 d22 d20) (fun _ _ _ _ _ _ us hl => match us, hl with | [_, _], _ => rfl)
  have d25 := dn_at (P := P) (w := w) (base := base) a25 (fun f fd F => ok_sumR F N d16 d21 d20) (fun _ _ _ _ _ _ us hl => match us, hl with | [_, _], _ => rfl)
  have dk : DnK P w K mg base (L2.CX P w) 4 "best_rest" ["counts", "days"] ["days", "counts"] gK gK (spBestR CB CT) := dnk_at a16 (fun f fd F => ok_bestR F N d12 d11 d8 d10 ET) fun _ _ _ _ _ _ => gK_binds fun _ _ => rfl
  refine ⟨N, d17, d18, d19, d24, d16, dk, d15, d25, HC, ?_⟩
  obtain ⟨f, fd, F, hm⟩ := aH.ex
  exact ⟨f, fd, F, hm, F.binds (ps := ["_law_ask"]) fun _ _ _ _ _ _ us hl => (match us, hl with | [_], _ => rfl)⟩
/-- the law, where it stands -/
theorem here_of {fa T c : Addr} {oc : Value} {od an : Option Addr} {osl : Array (Option Value)} {kV doc pm ct : Value} (hT : h.get? T = some { cls := .none, data := .fields #[] }) (nT : K.lookup T = none) (hC : PySem.W.CodeHd h c T)
    (lk : K.lookup fa = some ⟨oc, od, .func (PySem.W.fnOf "law" "law" (defArgs sLaw) (defBody sLaw) (defScope sLaw) .none kV doc pm an (.ref c) ct), osl⟩) (hcd : PySem.W.codeIn K (.ref c) "law" = true) (L : ∀ base : Heap, LawD P w K mg base CB CT CP) : Here P w K mg fa 63 h := by
  refine ⟨c, T, hT, nT, hC, fun s base H a ns hl bits TB e0 HT hS => ?_⟩
  have hr : Room 8 callerA := ⟨rfl, by decide, by decide⟩
  refine LamX.run_ofS (CX := C8.CX0) (N := NL) (ps := ["_law_script"]) (us := [.ref a]) (vs := [.ref a]) (Q := fun v _ => v = .bl true) (E := fun _ _ _ => False) lk hcd scLaw hr e0 (.of_eq rfl) (.cons rfl .nil) rfl fun hr' => ?_
  obtain ⟨Tm, hp, go⟩ := law_all (fa := fa) (a := a) (outer := []) (s := s) (H0 := H) (E := fun _ _ _ => False) (A := callerA) (L base) TB hr' rfl
  exact ⟨Tm, hp.nox, go (fun v _ => v = .bl true) ns H HT hS hl fun _ => rfl⟩
end
end K52
/-! The end. Written by gen_E.py. -/
namespace K52
open PySem L2
section
variable {P : Program} {w : World} {K : PySem.W.Frag} {mg : Str → Option Value} {h : Heap} {CB CT CP : Addr}
theorem nm_mk {t1 t2 t3 t4 t5 : Tok} (X : K.In h) (G : h.Ns mainGlobals mg)
    (z1 : PySem.W.nsIn K mainGlobals "isinstance" = some none)
    (z2 : PySem.W.nsIn K mainGlobals "int" = some none)
    (z3 : PySem.W.nsIn K mainGlobals "bool" = some none)
    (z4 : PySem.W.nsIn K mainGlobals "list" = some none)
    (z5 : PySem.W.nsIn K mainGlobals "tuple" = some none)
    (z6 : PySem.W.nsIn K mainGlobals "abs" = some none)
    (z7 : PySem.W.nsIn K mainGlobals "range" = some none)
    (z8 : PySem.W.nsIn K mainGlobals "len" = some none)
    (z9 : PySem.W.nsIn K mainGlobals "all" = some none)
    (z10 : PySem.W.nsIn K mainGlobals "sum" = some none)
    (z11 : PySem.W.nsIn K mainGlobals "repr" = some none)
    (c1 : PySem.W.nsIn K mainGlobals "MOST_GOODS" = some (some (.int 5 t1)))
    (c2 : PySem.W.nsIn K mainGlobals "MOST_COUNT" = some (some (.int 1000 t2)))
    (c3 : PySem.W.nsIn K mainGlobals "MOST_LOTS" = some (some (.int 60 t3)))
    (c4 : PySem.W.nsIn K mainGlobals "MOST_BEST_DAYS" = some (some (.int 250 t4)))
    (c5 : PySem.W.nsIn K mainGlobals "MOST_COUNTS" = some (some (.int 5000 t5)))
    : Nm mg :=
  { isi := PySem.W.mg_none_of X G z1, tint := PySem.W.mg_none_of X G z2, tbool := PySem.W.mg_none_of X G z3, tlist := PySem.W.mg_none_of X G z4, ttup := PySem.W.mg_none_of X G z5, abs := PySem.W.mg_none_of X G z6, rng := PySem.W.mg_none_of X G z7, len := PySem.W.mg_none_of X G z8, all := PySem.W.mg_none_of X G z9, sum := PySem.W.mg_none_of X G z10, repr := PySem.W.mg_none_of X G z11, goods := ⟨t1, PySem.W.mg_of X G c1⟩, count := ⟨t2, PySem.W.mg_of X G c2⟩, lots := ⟨t3, PySem.W.mg_of X G c3⟩, days := ⟨t4, PySem.W.mg_of X G c4⟩, counts := ⟨t5, PySem.W.mg_of X G c5⟩ }
theorem all_mk {fa f3 T c : Addr} {oc : Value} {od an : Option Addr} {osl : Array (Option Value)} {kV doc pm ct : Value} (X : K.In h) (G : h.Ns mainGlobals mg) (hfa : mg "law" = some (.ref fa)) (hT : h.get? T = some { cls := .none, data := .fields #[] })
    (aP : PySem.W.nsIn K mainGlobals "PriceError" = some (some (.ref CP))) (aB : PySem.W.nsIn K mainGlobals "BadNumber" = some (some (.ref CB))) (aT : PySem.W.nsIn K mainGlobals "TooMany" = some (some (.ref CT)))
    (bP : PySem.W.subIn K (.ref CP) (.type "BaseException") = some true) (dP : PySem.W.hasDictIn K CP = true) (tP : PySem.W.typeIn K (.ref CP) = some (.type "type")) (sB : PySem.W.subIn K (.ref CB) (.ref CP) = some true) (sT : PySem.W.subIn K (.ref CT) (.ref CP) = some true)
    (sBT : PySem.W.subIn K (.ref CB) (.ref CT) = some false) (pB : PySem.W.findIn K (.ref CB) "part" = some none) (pW : PySem.W.findIn K (.ref CT) "what" = some none) (pM : PySem.W.findIn K (.ref CT) "most" = some none)
    (rd : PySem.W.readsIn K CP (.type "type") = true) (ga : PySem.W.specialIn K (.ref CP) "__getattribute__" = some (some (.builtin "type.__getattribute__"))) (fi : PySem.W.findCls K (.ref CP) (.type "type") "__init__" = some (.val (.builtin "ValueError.__init__")))
    (EB : ErrK K CB) (ET : ErrK K CT) (iB : InitAt K CB "BadNumber.__init__" sInitB) (iT : InitAt K CT "TooMany.__init__" sInitT) (N : Nm mg)
    (a1 : At K mg "is_integer" sIsInt)
    (a2 : At K mg "is_within" sWithin)
    (a3 : At K mg "is_list" sIsList)
    (a4 : At K mg "common" sCommon)
    (a5 : At K mg "lowest" sLowest)
    (a6 : At K mg "raised" sRaised)
    (a7 : At K mg "tower" sTower)
    (a8 : At K mg "choose_in" sChoose)
    (a9 : At K mg "joined" sJoined)
    (a10 : At K mg "rest_by" sRestBy)
    (a11 : At K mg "need_integer" sNeedInt)
    (a12 : At K mg "need_counted" sNeedC)
    (a13 : At K mg "prices_to" sPrices)
    (a14 : At K mg "all_best" sAllB)
    (a15 : At K mg "best_price" sBestP)
    (a16 : At K mg "best_rest" sBestR)
    (a17 : At K mg "_law_crate" sCrate)
    (a18 : At K mg "_law_fill" sFill)
    (a19 : At K mg "_law_one_of" sOneOf)
    (a20 : At K mg "_law_number" sNumber)
    (a21 : At K mg "_law_halves" sHalves)
    (a22 : At K mg "_law_tower" sLTower)
    (a23 : At K mg "_law_worth" sLWorth)
    (a24 : At K mg "_law_rest" sLRest)
    (a25 : At K mg "_law_sum_right" sSumR)
    (aH : At K mg "_law_heard" sHeard) (aL : PySem.W.nsIn K mainGlobals "law" = some (some (.ref f3))) (lk : K.lookup f3 = some ⟨oc, od, .func (PySem.W.fnOf "law" "law" (defArgs sLaw) (defBody sLaw) (defScope sLaw) .none kV doc pm an (.ref c) ct), osl⟩) (hcd : PySem.W.codeIn K (.ref c) "law" = true)
    (eT : ((Value.ref CT == Value.ref CT) : Bool) = true) (eB : ((Value.ref CB == Value.ref CB) : Bool) = true) (nBT : ((Value.ref CB == Value.ref CT) : Bool) = false) (nT : K.lookup T = none) (hC : PySem.W.codeHdIn K c T = true) : Here P w K mg fa 63 h := by
  have e := hfa.symm.trans (PySem.W.mg_of X G aL)
  cases e
  have HC := hear_mk X G aP aB aT N.isi bP dP tP sB sT sBT eT eB nBT EB ET pB pW pM
  exact here_of hT nT (PySem.W.codeHd_of_K X hC) lk hcd fun base => law_defs N HC ⟨PySem.W.mg_of X G aP, rd, ga, fi⟩ EB ET iB iT a1 a2 a3 a4 a5 a6 a7 a8 a9 a10 a11 a12 a13 a14 a15 a16 a17 a18 a19 a20 a21 a22 a23 a24 a25 aH
end
end K52
open PySem PySem.W PyProof.Rows
set_option maxRecDepth 100000 in
set_option maxHeartbeats 0 in
theorem PySem.Challenge.cw_hindprice_k52_whole_best_rests_by_all_wo_holds : PySem.Challenge.rw_hindprice_k52_whole_best_rests_by_all_wo.Holds := by
  w_on; o_law; k_head; (case hw => w_witness2)
  k_fill
  refine K52.walk_here (l := PySem.Challenge.rw_hindprice_k52_whole_best_rests_by_all_wo) (n := 63) rfl (by decide) rfl (fun w h Y => PySem.W.km_in_of Y) ?F
  case F =>
    intro w mg fa h Y KX G hmg
    refine' K52.all_mk KX G hmg (PySem.W.km_tabs_of Y _ (List.mem_singleton.mpr rfl)) ?aP ?aB ?aT ?bP ?dP ?tP ?sB ?sT ?sBT ?pB ?pW ?pM ?rd ?ga ?fi ?EB ?ET ?iB ?iT ?nmx ?a1 ?a2 ?a3 ?a4 ?a5 ?a6 ?a7 ?a8 ?a9 ?a10 ?a11 ?a12 ?a13 ?a14 ?a15 ?a16 ?a17 ?a18 ?a19 ?a20 ?a21 ?a22 ?a23 ?a24 ?a25 ?aH ?aL ?lk ?hcd ?eT ?eB ?nBT ?nT ?hC
    (case aP => k_is); (case aB => k_is); (case aT => k_is); (case bP => k_is); (case dP => k_is); (case tP => k_is); (case sB => k_is); (case sT => k_is); (case sBT => k_is); (case pB => k_is); (case pW => k_is); (case pM => k_is); (case rd => k_is); (case ga => k_is); (case fi => k_is)
    case EB =>
      refine' K52.errK_mk ?l ?v ?sa ?b ?t ?k ?ga ?gg ?d ?c ?s ?tk ?m
      (case l => k_is); (case v => rfl); (case sa => k_is); (case b => k_is); (case t => k_is); (case k => k_is); (case ga => k_is); (case gg => k_is); (case d => k_is); (case c => k_is); (case s => k_is); (case tk => k_is); (case m => k_is)
    case ET =>
      refine' K52.errK_mk ?l ?v ?sa ?b ?t ?k ?ga ?gg ?d ?c ?s ?tk ?m
      (case l => k_is); (case v => rfl); (case sa => k_is); (case b => k_is); (case t => k_is); (case k => k_is); (case ga => k_is); (case gg => k_is); (case d => k_is); (case c => k_is); (case s => k_is); (case tk => k_is); (case m => k_is)
    case iB =>
      refine' K52.init_mk ?i ?t ?l ?c ?k; (case i => k_is); (case t => k_is); (case l => k_is); (case c => k_is); (case k => k_is)
    case iT =>
      refine' K52.init_mk ?i ?t ?l ?c ?k; (case i => k_is); (case t => k_is); (case l => k_is); (case c => k_is); (case k => k_is)
    case nmx =>
      refine' K52.nm_mk KX G ?z1 ?z2 ?z3 ?z4 ?z5 ?z6 ?z7 ?z8 ?z9 ?z10 ?z11 ?c1 ?c2 ?c3 ?c4 ?c5; (case z1 => k_is); (case z2 => k_is); (case z3 => k_is); (case z4 => k_is); (case z5 => k_is); (case z6 => k_is); (case z7 => k_is); (case z8 => k_is); (case z9 => k_is); (case z10 => k_is); (case z11 => k_is); (case c1 => k_is); (case c2 => k_is); (case c3 => k_is); (case c4 => k_is); (case c5 => k_is)
    case a1 => refine' K52.at_mk KX G ?a ?l ?c ?k; (case a => k_is); (case l => k_is); (case c => k_is); (case k => k_is)
    case a2 => refine' K52.at_mk KX G ?a ?l ?c ?k; (case a => k_is); (case l => k_is); (case c => k_is); (case k => k_is)
    case a3 => refine' K52.at_mk KX G ?a ?l ?c ?k; (case a => k_is); (case l => k_is); (case c => k_is); (case k => k_is)
    case a4 => refine' K52.at_mk KX G ?a ?l ?c ?k; (case a => k_is); (case l => k_is); (case c => k_is); (case k => k_is)
    case a5 => refine' K52.at_mk KX G ?a ?l ?c ?k; (case a => k_is); (case l => k_is); (case c => k_is); (case k => k_is)
    case a6 => refine' K52.at_mk KX G ?a ?l ?c ?k; (case a => k_is); (case l => k_is); (case c => k_is); (case k => k_is)
    case a7 => refine' K52.at_mk KX G ?a ?l ?c ?k; (case a => k_is); (case l => k_is); (case c => k_is); (case k => k_is)
    case a8 => refine' K52.at_mk KX G ?a ?l ?c ?k; (case a => k_is); (case l => k_is); (case c => k_is); (case k => k_is)
    case a9 => refine' K52.at_mk KX G ?a ?l ?c ?k; (case a => k_is); (case l => k_is); (case c => k_is); (case k => k_is)
    case a10 => refine' K52.at_mk KX G ?a ?l ?c ?k; (case a => k_is); (case l => k_is); (case c => k_is); (case k => k_is)
    case a11 => refine' K52.at_mk KX G ?a ?l ?c ?k; (case a => k_is); (case l => k_is); (case c => k_is); (case k => k_is)
    case a12 => refine' K52.at_mk KX G ?a ?l ?c ?k; (case a => k_is); (case l => k_is); (case c => k_is); (case k => k_is)
    case a13 => refine' K52.at_mk KX G ?a ?l ?c ?k; (case a => k_is); (case l => k_is); (case c => k_is); (case k => k_is)
    case a14 => refine' K52.at_mk KX G ?a ?l ?c ?k; (case a => k_is); (case l => k_is); (case c => k_is); (case k => k_is)
    case a15 => refine' K52.at_mk KX G ?a ?l ?c ?k; (case a => k_is); (case l => k_is); (case c => k_is); (case k => k_is)
    case a16 => refine' K52.at_mk KX G ?a ?l ?c ?k; (case a => k_is); (case l => k_is); (case c => k_is); (case k => k_is)
    case a17 => refine' K52.at_mk KX G ?a ?l ?c ?k; (case a => k_is); (case l => k_is); (case c => k_is); (case k => k_is)
    case a18 => refine' K52.at_mk KX G ?a ?l ?c ?k; (case a => k_is); (case l => k_is); (case c => k_is); (case k => k_is)
    case a19 => refine' K52.at_mk KX G ?a ?l ?c ?k; (case a => k_is); (case l => k_is); (case c => k_is); (case k => k_is)
    case a20 => refine' K52.at_mk KX G ?a ?l ?c ?k; (case a => k_is); (case l => k_is); (case c => k_is); (case k => k_is)
    case a21 => refine' K52.at_mk KX G ?a ?l ?c ?k; (case a => k_is); (case l => k_is); (case c => k_is); (case k => k_is)
    case a22 => refine' K52.at_mk KX G ?a ?l ?c ?k; (case a => k_is); (case l => k_is); (case c => k_is); (case k => k_is)
    case a23 => refine' K52.at_mk KX G ?a ?l ?c ?k; (case a => k_is); (case l => k_is); (case c => k_is); (case k => k_is)
    case a24 => refine' K52.at_mk KX G ?a ?l ?c ?k; (case a => k_is); (case l => k_is); (case c => k_is); (case k => k_is)
    case a25 => refine' K52.at_mk KX G ?a ?l ?c ?k; (case a => k_is); (case l => k_is); (case c => k_is); (case k => k_is)
    case aH => refine' K52.at_mk KX G ?a ?l ?c ?k; (case a => k_is); (case l => k_is); (case c => k_is); (case k => k_is)
    (case aL => k_is); (case lk => k_is); (case hcd => k_is)
    (case eT => rfl); (case eB => rfl); (case nBT => rfl)
    (case nT => rfl); (case hC => rfl)
