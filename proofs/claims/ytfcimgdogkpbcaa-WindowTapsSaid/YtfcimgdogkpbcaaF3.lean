/- Any int64 as a float64: its order against a small whole number is that of the numbers. -/
import Derived.Test.YtfcimgdogkpbcaaF2
namespace Go.Proofs.Ytfcimgdogkpbcaa.F
open Ieee
set_option linter.unusedVariables false
set_option linter.unusedSimpArgs false

theorem cut_even (neg : Bool) (m d : Nat) (hd : d ≤ m.log2) : ∃ c, c ≤ 1 ∧ Toward.even.cut neg m d = m / 2 ^ d + c := by
  unfold Toward.cut
  have hm : min d (m.log2 + 2) = d := by omega
  have hg : 1 <<< d = 2 ^ d := by rw [Nat.shiftLeft_eq, Nat.one_mul]
  simp only [hm, hg]
  refine ⟨_, ?_, rfl⟩
  cases (decide (2 ^ d < 2 * (m % 2 ^ d)) || 2 ^ d == 2 * (m % 2 ^ d) && m / 2 ^ d % 2 == 1) <;> decide

theorem br1 (A P q : Nat) (h3 : A ≤ 1974 * P) (h4 : q < 2 * P) : A + q < 2047 * P := by omega
theorem read_wordL (neg : Bool) (L q : Nat) (hL : L ≤ 900) (h0 : 2 ^ 52 ≤ q) (h1 : q < 2 * 2 ^ 52) : double.read (double.word neg ((L + 1022) * 2 ^ 52 + q)) = .number neg q ((L : Int) - 52) := by
  have hr : (L + 1022) * 2 ^ 52 + q < 2047 * 2 ^ 52 := by
    have h3 : (L + 1022) * 2 ^ 52 ≤ 1974 * 2 ^ 52 := Nat.mul_le_mul_right _ (by omega)
    exact br1 _ _ _ h3 h1
  have hw : double.signWeight = 2048 * 2 ^ 52 := by decide
  have hneg : (double.word neg ((L + 1022) * 2 ^ 52 + q) / double.signWeight % 2 == 1) = neg ∧ double.word neg ((L + 1022) * 2 ^ 52 + q) % double.signWeight = (L + 1022) * 2 ^ 52 + q := by
    rw [hw]
    unfold Format.word
    rw [hw]
    have hp : 0 < 2048 * 2 ^ 52 := by decide
    have hlt : (L + 1022) * 2 ^ 52 + q < 2048 * 2 ^ 52 := Nat.lt_trans hr (by decide)
    cases neg with
    | false =>
      rw [if_neg (by decide)]
      exact ⟨by rw [Nat.div_eq_of_lt hlt]; rfl, Nat.mod_eq_of_lt hlt⟩
    | true =>
      rw [if_pos rfl]
      refine ⟨?_, by rw [Nat.add_mod_left, Nat.mod_eq_of_lt hlt]⟩
      rw [Nat.add_div_left _ hp, Nat.div_eq_of_lt hlt]
      rfl
  have hb : double.binade = 2 ^ 52 := rfl
  have hi : double.infRung = 2047 * 2 ^ 52 := by decide
  have hl : double.leastPlace = -1074 := by decide
  have hp : 0 < 2 ^ 52 := by decide
  unfold Format.read
  simp only [hneg.1, hneg.2]
  rw [hb, hi, hl]
  obtain ⟨hd, hm⟩ := ar4 (2 ^ 52) (L + 1022) q hp h0 h1
  have hn : ¬ (L + 1022) * 2 ^ 52 + q < 2 ^ 52 := ar2 _ _ _ (Nat.mul_le_mul_right _ (by omega))
  have hq3 := ar3 _ _ h0
  have hpl : (-1074 : Int) + ((L + 1023 - 1 : Nat) : Int) = (L : Int) - 52 := by omega
  simp only [if_neg hn, if_pos hr, hd, hm, hq3]
  exact congrArg _ hpl

theorem two53 (m d : Nat) (hm : 2 ^ (d + 52) ≤ m) (hm2 : m < 2 ^ (d + 53)) : 2 ^ 52 ≤ m / 2 ^ d ∧ m / 2 ^ d < 2 * 2 ^ 52 := by
  have hp : 0 < 2 ^ d := Nat.two_pow_pos d
  have e : 2 ^ 52 * 2 ^ d = 2 ^ (d + 52) := by rw [Nat.add_comm d 52, Nat.pow_add]
  have e2 : 2 * 2 ^ 52 * 2 ^ d = 2 ^ (d + 53) := by rw [Nat.mul_assoc, e, Nat.mul_comm, ← Nat.pow_succ]
  exact ⟨(Nat.le_div_iff_mul_le hp).2 (by rw [e]; exact hm), (Nat.div_lt_iff_lt_mul hp).2 (by rw [e2]; exact hm2)⟩
theorem br2 (a c P : Nat) (h : a < 2 * P) (hc : c ≤ 1) (h2 : ¬ a + c < 2 * P) : a + c = P + P := by omega
theorem br3 (y c : Int) (A B : Nat) (hAB : A < B) (h1 : B ≤ y.natAbs) (h2 : c.natAbs < A) : (y < 0 → y < c) ∧ (¬ y < 0 → c < y) := by omega
theorem br4 (c : Int) (A Q : Nat) (h2 : c.natAbs < A) (h : A ≤ Q) : -(Q : Int) < c ∧ c < (Q : Int) := by omega
theorem br5 (a b : Int) (d : Nat) (h : a = (d : Int) + b) : a - b = (d : Int) := by omega
theorem mulsucc (A P : Nat) : A * P + P = (A + 1) * P := by rw [Nat.add_mul, Nat.one_mul]
theorem F_big (n : Int) (h : 2 ^ 53 ≤ n.natAbs) (h2 : n.natAbs < 2 ^ 64) : ∃ q d : Nat, 2 ^ 52 ≤ q ∧ double.read (F n) = .number (decide (n < 0)) q (d : Int) := by
  have hne : n.natAbs ≠ 0 := Nat.ne_of_gt (Nat.lt_of_lt_of_le (Nat.two_pow_pos 53) h)
  have hL1 : 53 ≤ n.natAbs.log2 := (Nat.le_log2 hne).2 h
  have hL2 : n.natAbs.log2 < 64 := (Nat.log2_lt hne).2 h2
  have g1 := Nat.log2_self_le hne
  have g2 := Nat.lt_log2_self (n := n.natAbs)
  obtain ⟨d, hd⟩ : ∃ d, n.natAbs.log2 = d + 52 := ⟨n.natAbs.log2 - 52, by omega⟩
  rw [hd] at g1 g2
  obtain ⟨c, hc, hcut⟩ := cut_even (decide (n < 0)) n.natAbs d (by omega)
  have hr := two53 n.natAbs d g1 g2
  have e1 : double.leastPlace = -1074 := by decide
  have e2 : double.fractionBits = 52 := rfl
  have e3 : double.binade = 2 ^ 52 := rfl
  have e4 : double.infRung = 2047 * 2 ^ 52 := by decide
  have hlast : max ((0 : Int) + (n.natAbs.log2 : Nat) - (double.fractionBits : Nat)) double.leastPlace = (d : Int) := by
    rw [e1, e2, hd]
    omega
  have hF : F n = double.word (decide (n < 0)) (min ((d + 1074) * 2 ^ 52 + (n.natAbs / 2 ^ d + c)) (2047 * 2 ^ 52)) := by
    rw [F_def]
    unfold Format.nearest
    rw [if_neg hne]
    simp only [hlast]
    rw [e1, e3, e4]
    have a1 : ((0 : Int) - (d : Int)).toNat = 0 := by omega
    have a2 : ((d : Int) - 0).toNat = d := by omega
    have a3 : ((d : Int) - -1074).toNat = d + 1074 := by omega
    rw [a1, a2, a3, Nat.shiftLeft_zero, hcut]
  by_cases hk : n.natAbs / 2 ^ d + c < 2 * 2 ^ 52
  · have h52 : 2 ^ 52 ≤ n.natAbs / 2 ^ d + c := Nat.le_trans hr.1 (Nat.le_add_right _ _)
    refine ⟨n.natAbs / 2 ^ d + c, d, h52, ?_⟩
    have hmin : min ((d + 1074) * 2 ^ 52 + (n.natAbs / 2 ^ d + c)) (2047 * 2 ^ 52) = (d + 52 + 1022) * 2 ^ 52 + (n.natAbs / 2 ^ d + c) := by
      rw [show d + 52 + 1022 = d + 1074 by omega]
      refine Nat.min_eq_left (Nat.le_of_lt (br1 _ _ _ (Nat.mul_le_mul_right _ (by omega)) hk))
    rw [hF, hmin, read_wordL _ _ _ (by omega) h52 hk]
    exact congrArg _ (by omega)
  · have hkk : n.natAbs / 2 ^ d + c = 2 ^ 52 + 2 ^ 52 := br2 _ _ _ hr.2 hc hk
    refine ⟨2 ^ 52, d + 1, Nat.le_refl _, ?_⟩
    have hmin : min ((d + 1074) * 2 ^ 52 + (n.natAbs / 2 ^ d + c)) (2047 * 2 ^ 52) = (d + 53 + 1022) * 2 ^ 52 + 2 ^ 52 := by
      rw [hkk, ← Nat.add_assoc, mulsucc, show d + 1074 + 1 = d + 53 + 1022 by omega]
      refine Nat.min_eq_left (Nat.le_of_lt (br1 _ _ _ (Nat.mul_le_mul_right _ (by omega)) (by decide)))
    rw [hF, hmin, read_wordL _ _ _ (by omega) (Nat.le_refl _) (by decide)]
    exact congrArg _ (by omega)

theorem compare_lt' {a b : Int} (h : a < b) : compare a b = .lt := Int.compare_eq_lt.2 h
theorem compare_gt' {a b : Int} (h : b < a) : compare a b = .gt := Int.compare_eq_gt.2 h

theorem order_any (y c : Int) (hy : y.natAbs < 2 ^ 64) (hc : c.natAbs < 2 ^ 52) : double.order (F y) (F c) = some (compare y c) := by
  by_cases hs : y.natAbs < 2 ^ 53
  · exact order_F y c hs (Nat.lt_trans hc (by decide))
  · obtain ⟨q, d, hq, hr⟩ := F_big y (Nat.le_of_not_lt hs) hy
    obtain ⟨j, hj⟩ := read_F c (Nat.lt_trans hc (by decide))
    unfold Format.order
    rw [hr, hj]
    have hb : min (d : Int) (-(j : Int)) = -(j : Int) := by omega
    have hu : ((d : Int) - -(j : Int)).toNat = d + j := by omega
    have hv : (-(j : Int) - -(j : Int)).toNat = 0 := by omega
    show some (compare (signed (decide (y < 0)) q _) (signed (decide (c < 0)) (c.natAbs * 2 ^ j) _)) = _
    rw [hb, hu, hv, signed_num, Nat.add_zero]
    have hp := pow_pos' j
    have hQ : 2 ^ 52 ≤ q * 2 ^ d := Nat.le_trans hq (Nat.le_mul_of_pos_right _ (Nat.two_pow_pos d))
    have hq2 : ((q * 2 ^ (d + j) : Nat) : Int) = ((q * 2 ^ d : Nat) : Int) * 2 ^ j := by
      rw [Nat.pow_add, ← Nat.mul_assoc, Int.natCast_mul, Int.natCast_pow]
      rfl
    congr 1
    unfold signed
    rw [Nat.shiftLeft_eq, hq2]
    have hyc := br3 y c (2 ^ 52) (2 ^ 53) (by decide) (Nat.le_of_not_lt hs) hc
    have hcq := br4 c (2 ^ 52) _ hc hQ
    clear hq hQ hc hs hy hr hj
    by_cases hn : y < 0
    · rw [decide_eq_true hn, if_pos rfl, compare_lt' (hyc.1 hn)]
      apply compare_lt'
      rw [← Int.neg_mul]
      exact Int.mul_lt_mul_of_pos_right hcq.1 hp
    · rw [decide_eq_false hn, if_neg (by decide), compare_gt' (hyc.2 hn)]
      apply compare_gt'
      exact Int.mul_lt_mul_of_pos_right hcq.2 hp
end Go.Proofs.Ytfcimgdogkpbcaa.F
