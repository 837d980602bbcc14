/- A float64 that is a small whole number: its sum, difference, product, order and cut are those of the number. -/
import Derived.Test.YtfcimgdogkpbcaaProg
import Derived.Laws.FloatArith
namespace Go.Proofs.Ytfcimgdogkpbcaa.F
open Ieee
set_option linter.unusedVariables false
set_option linter.unusedSimpArgs false
/-- A small whole number as a float64's bits. -/
def F (n : Int) : Nat := floatOfInt .f64 n
theorem F_def (n : Int) : F n = double.nearest (decide (n < 0)) n.natAbs 0 := rfl

/-- n, spelled with k digits behind the point. -/
def num (n : Int) (k : Nat) : Datum := .number (decide (n < 0)) (n.natAbs * 2 ^ k) (-(k : Int))

theorem log2_mul (m K : Nat) (h : 0 < m) : (m * 2 ^ K).log2 = m.log2 + K := by
  have h1 := Nat.log2_self_le (n := m) (by omega)
  have h2 := Nat.lt_log2_self (n := m)
  have hp : 0 < 2 ^ K := Nat.two_pow_pos K
  have hne : m * 2 ^ K ≠ 0 := Nat.ne_of_gt (Nat.mul_pos h hp)
  rw [Nat.log2_eq_iff hne]
  constructor
  · rw [Nat.pow_add]; exact Nat.mul_le_mul_right _ h1
  · rw [show m.log2 + K + 1 = (m.log2 + 1) + K by omega, Nat.pow_add]; exact Nat.mul_lt_mul_of_pos_right h2 hp

theorem cut_exact (way : Toward) (neg : Bool) (m drop : Nat) : way.cut neg (m * 2 ^ drop) drop = m := by
  unfold Toward.cut
  by_cases hm : m = 0
  · subst hm
    simp
    cases way <;> simp
  · have hl : min drop ((m * 2 ^ drop).log2 + 2) = drop := by rw [log2_mul m drop (by omega)]; omega
    have hg : 1 <<< drop = 2 ^ drop := by rw [Nat.shiftLeft_eq, Nat.one_mul]
    have hp : 0 < 2 ^ drop := Nat.two_pow_pos drop
    simp only [hl, hg]
    rw [Nat.mul_div_cancel _ hp, Nat.mul_mod_left]
    cases way <;> simp <;> omega

theorem ar1 (A P q : Nat) (h3 : A ≤ 1074 * P) (h4 : q < 2 * P) : A + q < 2047 * P := by omega
theorem ar2 (A P q : Nat) (h3 : 1 * P ≤ A) : ¬ A + q < P := by omega
theorem ar3 (P q : Nat) (h0 : P ≤ q) : P + (q - P) = q := by omega
theorem ar4 (P B q : Nat) (hp : 0 < P) (h0 : P ≤ q) (h1 : q < 2 * P) : (B * P + q) / P = B + 1 ∧ (B * P + q) % P = q - P := by
  obtain ⟨r, rfl⟩ : ∃ r, q = P + r := ⟨q - P, by omega⟩
  have hr : r < P := by omega
  rw [show B * P + (P + r) = (B + 1) * P + r by rw [Nat.add_mul, Nat.one_mul]; omega, show P + r - P = r by omega]
  refine ⟨?_, ?_⟩
  · rw [Nat.add_comm, Nat.add_mul_div_right _ _ hp, Nat.div_eq_of_lt hr, Nat.zero_add]
  · rw [Nat.add_comm, Nat.add_mul_mod_self_right, Nat.mod_eq_of_lt hr]

theorem log2_lt53 (m : Nat) (h0 : 0 < m) (h : m < 2 ^ 53) : m.log2 ≤ 52 := by
  have := (Nat.log2_lt (n := m) (k := 53) (by omega)).2 h
  omega

/-- The word of a number with at most 53 digits. -/
theorem nearest_small (neg : Bool) (m K : Nat) (h0 : 0 < m) (h : m < 2 ^ 53) : double.nearest neg (m * 2 ^ K) (-(K : Int)) = double.word neg ((m.log2 + 1022) * 2 ^ 52 + m * 2 ^ (52 - m.log2)) := by
  have hL := log2_lt53 m h0 h
  have hp : 0 < 2 ^ K := Nat.two_pow_pos K
  have hne : m * 2 ^ K ≠ 0 := Nat.ne_of_gt (Nat.mul_pos h0 hp)
  have hlast : max (-(K : Int) + ((m * 2 ^ K).log2 : Nat) - (double.fractionBits : Nat)) double.leastPlace = (m.log2 : Int) - 52 := by
    rw [log2_mul m K h0]
    have e1 : double.leastPlace = -1074 := by decide
    have e2 : double.fractionBits = 52 := rfl
    rw [e1, e2]
    omega
  have hkept : Toward.even.cut neg ((m * 2 ^ K) <<< (-(K : Int) - ((m.log2 : Int) - 52)).toNat) (((m.log2 : Int) - 52) - -(K : Int)).toNat = m * 2 ^ (52 - m.log2) := by
    rw [Nat.shiftLeft_eq]
    by_cases hk : K + m.log2 ≤ 52
    · have a1 : (-(K : Int) - ((m.log2 : Int) - 52)).toNat = 52 - m.log2 - K := by omega
      have a2 : (((m.log2 : Int) - 52) - -(K : Int)).toNat = 0 := by omega
      rw [a1, a2, Nat.mul_assoc, ← Nat.pow_add, show K + (52 - m.log2 - K) = 52 - m.log2 by omega]
      have := cut_exact .even neg (m * 2 ^ (52 - m.log2)) 0
      rwa [Nat.pow_zero, Nat.mul_one] at this
    · have a1 : (-(K : Int) - ((m.log2 : Int) - 52)).toNat = 0 := by omega
      have a2 : (((m.log2 : Int) - 52) - -(K : Int)).toNat = K - (52 - m.log2) := by omega
      rw [a1, a2, Nat.pow_zero, Nat.mul_one, show m * 2 ^ K = m * 2 ^ (52 - m.log2) * 2 ^ (K - (52 - m.log2)) by rw [Nat.mul_assoc, ← Nat.pow_add]; congr 2; omega]
      exact cut_exact .even neg _ _
  unfold Format.nearest
  rw [if_neg hne]
  simp only [hlast, hkept]
  have e1 : double.leastPlace = -1074 := by decide
  have e3 : double.binade = 2 ^ 52 := rfl
  have e4 : double.infRung = 2047 * 2 ^ 52 := by decide
  have a3 : ((m.log2 : Int) - 52 - -1074).toNat = m.log2 + 1022 := by omega
  rw [e1, e3, e4, a3]
  have hq : m * 2 ^ (52 - m.log2) < 2 ^ 53 := by
    have h2 := Nat.lt_log2_self (n := m)
    have : m * 2 ^ (52 - m.log2) < 2 ^ (m.log2 + 1) * 2 ^ (52 - m.log2) := Nat.mul_lt_mul_of_pos_right h2 (Nat.two_pow_pos _)
    rw [← Nat.pow_add, show m.log2 + 1 + (52 - m.log2) = 53 by omega] at this
    exact this
  congr 1
  refine Nat.min_eq_left ?_
  have h3 : (m.log2 + 1022) * 2 ^ 52 ≤ 1074 * 2 ^ 52 := Nat.mul_le_mul_right _ (by omega)
  have h4 : m * 2 ^ (52 - m.log2) < 2 * 2 ^ 52 := hq
  exact Nat.le_of_lt (ar1 _ _ _ h3 h4)

theorem scaled (m : Nat) (h0 : 0 < m) (h : m < 2 ^ 53) : 2 ^ 52 ≤ m * 2 ^ (52 - m.log2) ∧ m * 2 ^ (52 - m.log2) < 2 * 2 ^ 52 := by
  have hL := log2_lt53 m h0 h
  have h1 := Nat.log2_self_le (n := m) (by omega)
  have h2 := Nat.lt_log2_self (n := m)
  constructor
  · have : 2 ^ m.log2 * 2 ^ (52 - m.log2) ≤ m * 2 ^ (52 - m.log2) := Nat.mul_le_mul_right _ h1
    rwa [← Nat.pow_add, show m.log2 + (52 - m.log2) = 52 by omega] at this
  · have : m * 2 ^ (52 - m.log2) < 2 ^ (m.log2 + 1) * 2 ^ (52 - m.log2) := Nat.mul_lt_mul_of_pos_right h2 (Nat.two_pow_pos _)
    rw [← Nat.pow_add, show m.log2 + 1 + (52 - m.log2) = 53 by omega] at this
    exact this

theorem read_word (neg : Bool) (L q : Nat) (hL : L ≤ 52) (h0 : 2 ^ 52 ≤ q) (h1 : q < 2 * 2 ^ 52) : double.read (double.word neg ((L + 1022) * 2 ^ 52 + q)) = .number neg q ((L : Int) - 52) := by
  have hr : (L + 1022) * 2 ^ 52 + q < 2047 * 2 ^ 52 := by
    have h3 : (L + 1022) * 2 ^ 52 ≤ 1074 * 2 ^ 52 := Nat.mul_le_mul_right _ (by omega)
    exact ar1 _ _ _ h3 h1
  have hw : double.signWeight = 2048 * 2 ^ 52 := by decide
  have hneg : (double.word neg ((L + 1022) * 2 ^ 52 + q) / double.signWeight % 2 == 1) = neg ∧ double.word neg ((L + 1022) * 2 ^ 52 + q) % double.signWeight = (L + 1022) * 2 ^ 52 + q := by
    rw [hw]
    unfold Format.word
    rw [hw]
    have hp : 0 < 2048 * 2 ^ 52 := by decide
    have hlt : (L + 1022) * 2 ^ 52 + q < 2048 * 2 ^ 52 := Nat.lt_trans hr (by decide)
    cases neg with
    | false =>
      rw [if_neg (by decide)]
      exact ⟨by rw [Nat.div_eq_of_lt hlt]; rfl, Nat.mod_eq_of_lt hlt⟩
    | true =>
      rw [if_pos rfl]
      refine ⟨?_, by rw [Nat.add_mod_left, Nat.mod_eq_of_lt hlt]⟩
      rw [Nat.add_div_left _ hp, Nat.div_eq_of_lt hlt]
      rfl
  have hb : double.binade = 2 ^ 52 := rfl
  have hi : double.infRung = 2047 * 2 ^ 52 := by decide
  have hl : double.leastPlace = -1074 := by decide
  have hp : 0 < 2 ^ 52 := by decide
  unfold Format.read
  simp only [hneg.1, hneg.2]
  rw [hb, hi, hl]
  obtain ⟨hd, hm⟩ := ar4 (2 ^ 52) (L + 1022) q hp h0 h1
  have hn : ¬ (L + 1022) * 2 ^ 52 + q < 2 ^ 52 := ar2 _ _ _ (Nat.mul_le_mul_right _ (by omega))
  have hq3 := ar3 _ _ h0
  have hpl : (-1074 : Int) + ((L + 1023 - 1 : Nat) : Int) = (L : Int) - 52 := by omega
  simp only [if_neg hn, if_pos hr, hd, hm, hq3]
  exact congrArg _ hpl

theorem F_small (n : Int) (h0 : n ≠ 0) (h : n.natAbs < 2 ^ 53) (K : Nat) : double.nearest (decide (n < 0)) (n.natAbs * 2 ^ K) (-(K : Int)) = F n := by
  rw [nearest_small _ _ _ (by omega) h, F_def]
  have := nearest_small (decide (n < 0)) n.natAbs 0 (by omega) h
  rw [Nat.pow_zero, Nat.mul_one] at this
  exact this.symm

/-- Writing a small whole number: its float, however it is spelled. -/
theorem write_num (n : Int) (h : n.natAbs < 2 ^ 53) (K : Nat) : double.write (num n K) = F n := by
  show double.nearest (decide (n < 0)) (n.natAbs * 2 ^ K) (-(K : Int)) = F n
  by_cases h0 : n = 0
  · subst h0
    unfold Format.nearest
    rw [if_pos (by simp)]
    rfl
  · exact F_small n h0 h K

/-- Reading a small whole number's float. -/
theorem read_F (n : Int) (h : n.natAbs < 2 ^ 53) : ∃ k, double.read (F n) = num n k := by
  by_cases h0 : n = 0
  · subst h0
    exact ⟨1074, by decide +kernel⟩
  · refine ⟨52 - n.natAbs.log2, ?_⟩
    have hp : 0 < n.natAbs := by omega
    have hL := log2_lt53 _ hp h
    obtain ⟨s0, s1⟩ := scaled _ hp h
    have e := nearest_small (decide (n < 0)) n.natAbs 0 hp h
    rw [Nat.pow_zero, Nat.mul_one] at e
    have e' : double.nearest (decide (n < 0)) n.natAbs 0 = _ := e
    rw [F_def, e', read_word _ _ _ hL s0 s1]
    unfold num
    congr 1
    omega
end Go.Proofs.Ytfcimgdogkpbcaa.F
