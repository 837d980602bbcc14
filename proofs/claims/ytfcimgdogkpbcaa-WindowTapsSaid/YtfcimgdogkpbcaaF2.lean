/- Small whole numbers as float64s: sum, difference, product, order, cut. -/
import Derived.Test.YtfcimgdogkpbcaaF1
namespace Go.Proofs.Ytfcimgdogkpbcaa.F
open Ieee
set_option linter.unusedVariables false
set_option linter.unusedSimpArgs false

theorem signed_num (n : Int) (k u : Nat) : signed (decide (n < 0)) (n.natAbs * 2 ^ k) u = n * 2 ^ (k + u) := by
  unfold signed
  rw [Nat.shiftLeft_eq, Nat.mul_assoc, ← Nat.pow_add]
  have e : ((n.natAbs * 2 ^ (k + u) : Nat) : Int) = (n.natAbs : Int) * 2 ^ (k + u) := by
    rw [Int.natCast_mul, Int.natCast_pow]; rfl
  rw [e]
  by_cases h : n < 0
  · rw [decide_eq_true h, if_pos rfl, show (n.natAbs : Int) = -n by omega, Int.neg_mul, Int.neg_neg]
  · rw [decide_eq_false h, if_neg (by decide), show (n.natAbs : Int) = n by omega]

theorem pow_pos' (k : Nat) : (0 : Int) < 2 ^ k := Int.pow_pos (by decide)

theorem base_is (k j : Nat) : min (-(k : Int)) (-(j : Int)) = -((max k j : Nat) : Int) := by omega
theorem up_l (k j : Nat) : (-(k : Int) - -((max k j : Nat) : Int)).toNat = max k j - k := by omega
theorem up_r (k j : Nat) : (-(j : Int) - -((max k j : Nat) : Int)).toNat = max k j - j := by omega

theorem num_of (t : Int) (n : Int) (K : Nat) (h : t = n * 2 ^ K) : (Datum.number (decide (t < 0)) t.natAbs (-(K : Int))) = num n K := by
  subst h
  have hp := pow_pos' K
  unfold num
  congr 1
  · by_cases h : n < 0
    · rw [decide_eq_true h, decide_eq_true (Int.mul_neg_of_neg_of_pos h hp)]
    · rw [decide_eq_false h, decide_eq_false (Int.not_lt.mpr (Int.mul_nonneg (by omega) (Int.le_of_lt hp)))]
  · rw [Int.natAbs_mul, Int.natAbs_pow]; rfl

/-- The sum of two, the second under a sign of its own (so that it serves for differences, too). -/
theorem sum_num (a b : Int) (k j : Nat) (t : Bool) (ht : b ≠ 0 → t = decide (b < 0)) (hz : b = 0 → t = true → ¬ a < 0) :
    (num a k).sum (.number t (b.natAbs * 2 ^ j) (-(j : Int))) = some (num (a + b) (max k j)) := by
  have hs : signed t (b.natAbs * 2 ^ j) (max k j - j) = b * 2 ^ (max k j) := by
    by_cases h0 : b = 0
    · subst h0
      unfold signed
      simp
    · rw [ht h0, signed_num, show j + (max k j - j) = max k j by omega]
  have hsa : signed (decide (a < 0)) (a.natAbs * 2 ^ k) (max k j - k) = a * 2 ^ (max k j) := by
    rw [signed_num, show k + (max k j - k) = max k j by omega]
  show some (Datum.number _ _ _) = _
  simp only [base_is, up_l, up_r, hs, hsa]
  have htot : a * 2 ^ (max k j) + b * 2 ^ (max k j) = (a + b) * 2 ^ (max k j) := (Int.add_mul _ _ _).symm
  rw [htot]
  have hp := pow_pos' (max k j)
  rw [← num_of _ (a + b) (max k j) rfl]
  congr 2
  by_cases h0 : (a + b) * 2 ^ (max k j) = 0
  · rw [if_pos h0, h0]
    have hab : a + b = 0 := by
      rcases Int.mul_eq_zero.mp h0 with h | h
      · exact h
      · exact absurd h (Int.ne_of_gt hp)
    by_cases hb : b = 0
    · subst hb
      have ha : a = 0 := by omega
      subst ha
      rfl
    · rw [ht hb]
      by_cases ha : a < 0
      · rw [decide_eq_true ha, decide_eq_false (show ¬ b < 0 by omega)]; rfl
      · rw [decide_eq_false ha]; rfl
  · rw [if_neg h0]

theorem add_F (a b : Int) (ha : a.natAbs < 2 ^ 53) (hb : b.natAbs < 2 ^ 53) (hs : (a + b).natAbs < 2 ^ 53) : double.add (F a) (F b) = some (F (a + b)) := by
  obtain ⟨k, hk⟩ := read_F a ha
  obtain ⟨j, hj⟩ := read_F b hb
  unfold Format.add
  rw [hk, hj]
  have := sum_num a b k j (decide (b < 0)) (fun _ => rfl) (fun h0 h1 => by subst h0; exact absurd h1 (by decide))
  show ((num a k).sum (num b j)).map _ = _
  unfold num at this ⊢
  rw [this]
  show some (double.write (num (a + b) (max k j))) = _
  rw [write_num _ hs]

theorem sub_F (a b : Int) (ha : a.natAbs < 2 ^ 53) (hb : b.natAbs < 2 ^ 53) (hs : (a - b).natAbs < 2 ^ 53) (hz : b = 0 → 0 ≤ a) : double.sub (F a) (F b) = some (F (a - b)) := by
  obtain ⟨k, hk⟩ := read_F a ha
  obtain ⟨j, hj⟩ := read_F b hb
  unfold Format.sub
  rw [hk, hj]
  have := sum_num a (-b) k j (!decide (b < 0)) (fun h => by by_cases h' : b < 0 <;> simp [h'] <;> omega) (fun h0 _ => by have := hz (by omega); omega)
  rw [Int.natAbs_neg] at this
  show ((num a k).sum (.number (!decide (b < 0)) (b.natAbs * 2 ^ j) (-(j : Int)))).map _ = _
  rw [this]
  show some (double.write (num (a + -b) (max k j))) = _
  rw [write_num _ (by rwa [← Int.sub_eq_add_neg]), Int.sub_eq_add_neg]

theorem mul_F (a b : Int) (ha0 : 0 ≤ a) (hb0 : 0 ≤ b) (ha : a.natAbs < 2 ^ 53) (hb : b.natAbs < 2 ^ 53) (hs : (a * b).natAbs < 2 ^ 53) : double.mul (F a) (F b) = some (F (a * b)) := by
  obtain ⟨k, hk⟩ := read_F a ha
  obtain ⟨j, hj⟩ := read_F b hb
  unfold Format.mul
  rw [hk, hj]
  have e : (num a k).product (num b j) = some (num (a * b) (k + j)) := by
    show some (Datum.number _ _ _) = _
    rw [decide_eq_false (show ¬ a < 0 by omega), decide_eq_false (show ¬ b < 0 by omega)]
    unfold num
    rw [decide_eq_false (show ¬ a * b < 0 from Int.not_lt.mpr (Int.mul_nonneg ha0 hb0))]
    congr 2
    · rw [Int.natAbs_mul, Nat.pow_add, Nat.mul_mul_mul_comm]
    · omega
  rw [e]
  show some (double.write (num (a * b) (k + j))) = _
  rw [write_num _ hs]

theorem compare_mul (a b : Int) (K : Nat) : compare (a * 2 ^ K) (b * 2 ^ K) = compare a b := by
  have hp := pow_pos' K
  show compareOfLessAndEq _ _ = compareOfLessAndEq _ _
  unfold compareOfLessAndEq
  by_cases h : a < b
  · rw [if_pos h, if_pos (Int.mul_lt_mul_of_pos_right h hp)]
  · rw [if_neg h, if_neg (Int.not_lt.mpr (Int.mul_le_mul_of_nonneg_right (by omega) (Int.le_of_lt hp)))]
    by_cases h' : a = b
    · rw [if_pos h', if_pos (by rw [h'])]
    · rw [if_neg h', if_neg (fun e => h' (Int.eq_of_mul_eq_mul_right (Int.ne_of_gt hp) e))]

theorem order_F (a b : Int) (ha : a.natAbs < 2 ^ 53) (hb : b.natAbs < 2 ^ 53) : double.order (F a) (F b) = some (compare a b) := by
  obtain ⟨k, hk⟩ := read_F a ha
  obtain ⟨j, hj⟩ := read_F b hb
  unfold Format.order
  rw [hk, hj]
  show some (compare _ _) = _
  rw [base_is, up_l, up_r, signed_num, signed_num, show k + (max k j - k) = max k j by omega, show j + (max k j - j) = max k j by omega, compare_mul]

theorem toInt_F (n : Int) (h : n.natAbs < 2 ^ 53) : (double.read (F n)).toInt .zero = some n := by
  obtain ⟨k, hk⟩ := read_F n h
  rw [hk]
  unfold Datum.toInt num
  simp only [Datum.integral]
  have e1 : (-(k : Int)).toNat = 0 := by omega
  have e2 : (-(-(k : Int))).toNat = k := by omega
  rw [e1, e2, Nat.shiftLeft_zero, cut_exact]
  have := signed_num n 0 0
  rw [Nat.pow_zero, Nat.mul_one, Int.pow_zero, Int.mul_one] at this
  rw [this]
end Go.Proofs.Ytfcimgdogkpbcaa.F
