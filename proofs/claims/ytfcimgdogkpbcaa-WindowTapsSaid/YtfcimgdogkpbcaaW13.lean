/- Window: the plain law of Inside: the outputs that it names are just those all of whose places lie over the input. -/
import Derived.Test.YtfcimgdogkpbcaaW12
namespace Go.Proofs.Ytfcimgdogkpbcaa.W
open Go.RowKit T1 F Dr
set_option linter.unusedVariables false
set_option linter.unusedSimpArgs false

theorem filter_all {α : Type} (p : α → Bool) : ∀ l : List α, (l.filter p).length = l.length ↔ ∀ a ∈ l, p a = true
  | [] => by simp
  | a :: l => by
    have ih := filter_all p l
    have hle := List.length_filter_le p l
    cases h : p a with
    | true => simp [List.filter_cons, h, ih]
    | false => simp [List.filter_cons, h]; omega

theorem all_places (k0 k1 : Int) (hk0 : 1 ≤ k0) (hk1 : 1 ≤ k1) (A B : Int → Prop) : (∀ n : Nat, n < (k0 * k1).toNat → A ((n : Int) / k1) ∧ B ((n : Int) % k1)) ↔ (∀ i, 0 ≤ i → i < k0 → A i) ∧ (∀ j, 0 ≤ j → j < k1 → B j) := by
  constructor
  · intro h
    refine ⟨fun i h0 h1 => ?_, fun j h0 h1 => ?_⟩
    · have e : ((i * k1).toNat : Int) = i * k1 := Int.toNat_of_nonneg (Int.mul_nonneg h0 (by omega))
      have h2 : i * k1 < k0 * k1 := Int.mul_lt_mul_of_pos_right h1 (by omega)
      have := (h (i * k1).toNat (by omega)).1
      rw [e, Int.mul_ediv_cancel _ (by omega)] at this
      exact this
    · have e : (j.toNat : Int) = j := Int.toNat_of_nonneg h0
      have h2 : 1 * k1 ≤ k0 * k1 := Int.mul_le_mul_of_nonneg_right hk0 (by omega)
      have := (h j.toNat (by omega)).2
      rw [e, Int.emod_eq_of_lt h0 h1] at this
      exact this
  · rintro ⟨h0, h1⟩ n hn
    have hnk : (n : Int) < k0 * k1 := by omega
    exact ⟨h0 _ (Int.ediv_nonneg (by omega) (by omega)) (Int.ediv_lt_of_lt_mul (by omega) hnk), h1 _ (Int.emod_nonneg _ (by omega)) (Int.emod_lt_of_pos _ (by omega))⟩

theorem fr_le {s p y : Int} (hs : 1 ≤ s) : frV s p ≤ y ↔ p ≤ y * s := by
  unfold frV
  have h : (p + s - 1) / s < y + 1 ↔ p + s - 1 < (y + 1) * s := Int.ediv_lt_iff_lt_mul (by omega)
  rw [Int.add_mul, Int.one_mul] at h
  omega
theorem lt_to {n k s p o y : Int} (hs : 1 ≤ s) (hy : 0 ≤ y) (ho : y < o) : y < toV n k s p o ↔ y * s ≤ n - k + p := by
  unfold toV
  have hY : 0 ≤ y * s := Int.mul_nonneg hy (by omega)
  have h : y ≤ (n - k + p) / s ↔ y * s ≤ n - k + p := Int.le_ediv_iff_mul_le (by omega)
  split
  · omega
  · split <;> omega

theorem span {Y k n p : Int} (hk : 1 ≤ k) : (∀ i, 0 ≤ i → i < k → 0 ≤ Y + i - p ∧ Y + i - p < n) ↔ p ≤ Y ∧ Y ≤ n - k + p := by
  constructor
  · intro h
    have h0 := h 0 (Int.le_refl _) (by omega)
    have h1 := h (k - 1) (by omega) (by omega)
    omega
  · rintro ⟨h0, h1⟩ i hi hik
    omega

theorem inside_iff {n0 n1 k0 k1 s0 s1 p0 p1 p2 p3 y x : Int} (hg : goodV n0 n1 k0 k1 s0 s1 p0 p1 p2 p3 = true) (hy : 0 ≤ y ∧ y < outV n0 k0 s0 p0 p2) (hx : 0 ≤ x ∧ x < outV n1 k1 s1 p1 p3) :
    (((tapsL n0 n1 k1 s0 s1 p0 p1 y x (k0 * k1).toNat).length : Int) == k0 * k1) =
      (decide (insV n0 n1 k0 k1 s0 s1 p0 p1 p2 p3 0 ≤ y) && decide (y < insV n0 n1 k0 k1 s0 s1 p0 p1 p2 p3 1) && decide (insV n0 n1 k0 k1 s0 s1 p0 p1 p2 p3 2 ≤ x) && decide (x < insV n0 n1 k0 k1 s0 s1 p0 p1 p2 p3 3)) := by
  obtain ⟨h00, h01, h02, h03, h04, h10, h11, h12, h13, h14, ha, hb⟩ := goodV_iff.1 hg
  have hkk : 0 ≤ k0 * k1 := Int.mul_nonneg (by omega) (by omega)
  have e1 : (((tapsL n0 n1 k1 s0 s1 p0 p1 y x (k0 * k1).toNat).length : Int) = k0 * k1) ↔ (p0 ≤ y * s0 ∧ y * s0 ≤ n0 - k0 + p0) ∧ (p1 ≤ x * s1 ∧ x * s1 ≤ n1 - k1 + p1) := by
    have f := filter_all (fun p : Int × Int => inB n0 n1 s0 s1 p0 p1 y x p.1 p.2) ((List.range (k0 * k1).toNat).map fun (n : Nat) => ((n : Int) / k1, (n : Int) % k1))
    rw [List.length_map, List.length_range] at f
    have e : (((tapsL n0 n1 k1 s0 s1 p0 p1 y x (k0 * k1).toNat).length : Int) = k0 * k1) ↔ (tapsL n0 n1 k1 s0 s1 p0 p1 y x (k0 * k1).toNat).length = (k0 * k1).toNat := by omega
    rw [e]
    refine f.trans ?_
    rw [← span (Y := y * s0) (by omega), ← span (Y := x * s1) (by omega), ← all_places k0 k1 (by omega) (by omega) (fun i => 0 ≤ y * s0 + i - p0 ∧ y * s0 + i - p0 < n0) (fun j => 0 ≤ x * s1 + j - p1 ∧ x * s1 + j - p1 < n1)]
    constructor
    · intro h n hn
      have := h ((n : Int) / k1, (n : Int) % k1) (List.mem_map.2 ⟨n, List.mem_range.2 hn, rfl⟩)
      simp only [inB, Bool.and_eq_true, decide_eq_true_eq] at this
      exact ⟨⟨this.1.1.1, this.1.1.2⟩, this.1.2, this.2⟩
    · intro h p hp
      obtain ⟨n, hn, rfl⟩ := List.mem_map.1 hp
      obtain ⟨⟨a, b⟩, c, d⟩ := h n (List.mem_range.1 hn)
      simp only [inB, Bool.and_eq_true, decide_eq_true_eq]
      exact ⟨⟨⟨a, b⟩, c⟩, d⟩
  have f0 := fr_le (p := p0) (y := y) h02.1
  have f1 := fr_le (p := p1) (y := x) h12.1
  have t0 := lt_to (n := n0) (k := k0) (p := p0) h02.1 hy.1 hy.2
  have t1 := lt_to (n := n1) (k := k1) (p := p1) h12.1 hx.1 hx.2
  have e2 : (decide (insV n0 n1 k0 k1 s0 s1 p0 p1 p2 p3 0 ≤ y) && decide (y < insV n0 n1 k0 k1 s0 s1 p0 p1 p2 p3 1) && decide (insV n0 n1 k0 k1 s0 s1 p0 p1 p2 p3 2 ≤ x) && decide (x < insV n0 n1 k0 k1 s0 s1 p0 p1 p2 p3 3)) = decide ((p0 ≤ y * s0 ∧ y * s0 ≤ n0 - k0 + p0) ∧ (p1 ≤ x * s1 ∧ x * s1 ≤ n1 - k1 + p1)) := by
    cases hn : noneB n0 n1 k0 k1 s0 s1 p0 p1 p2 p3 with
    | true =>
      simp only [insV, hn, cond_true]
      have hn' := hn
      simp only [noneB, Bool.or_eq_true, decide_eq_true_eq] at hn'
      rw [decide_eq_false (show ¬ y < 0 by omega), Bool.and_false, Bool.false_and, Bool.false_and]
      symm
      apply decide_eq_false
      omega
    | false =>
      simp only [insV, hn, cond_false]
      rw [← Bool.decide_and, ← Bool.decide_and, ← Bool.decide_and]
      apply decide_eq_decide.2
      omega
  rw [e2]
  by_cases h : ((tapsL n0 n1 k1 s0 s1 p0 p1 y x (k0 * k1).toNat).length : Int) = k0 * k1
  · rw [beq_iff_eq.2 h, decide_eq_true (e1.1 h)]
  · rw [beq_eq_false_iff_ne.2 h, decide_eq_false (fun h' => h (e1.2 h'))]
theorem ins_le {n0 n1 k0 k1 s0 s1 p0 p1 p2 p3 : Int} (hg : goodV n0 n1 k0 k1 s0 s1 p0 p1 p2 p3 = true) : insV n0 n1 k0 k1 s0 s1 p0 p1 p2 p3 1 ≤ outV n0 k0 s0 p0 p2 ∧ insV n0 n1 k0 k1 s0 s1 p0 p1 p2 p3 3 ≤ outV n1 k1 s1 p1 p3 := by
  obtain ⟨h00, h01, h02, h03, h04, h10, h11, h12, h13, h14, ha, hb⟩ := goodV_iff.1 hg
  have o0 := out_small ⟨h00, h01, h02, h03, h04, ha⟩
  have o1 := out_small ⟨h10, h11, h12, h13, h14, hb⟩
  have a0 : toV n0 k0 s0 p0 (outV n0 k0 s0 p0 p2) ≤ outV n0 k0 s0 p0 p2 := by unfold toV; split <;> (try split) <;> omega
  have a1 : toV n1 k1 s1 p1 (outV n1 k1 s1 p1 p3) ≤ outV n1 k1 s1 p1 p3 := by unfold toV; split <;> (try split) <;> omega
  cases hn : noneB n0 n1 k0 k1 s0 s1 p0 p1 p2 p3 with
  | true => simp only [insV, hn, cond_true]; omega
  | false => simp only [insV, hn, cond_false]; omega
end Go.Proofs.Ytfcimgdogkpbcaa.W
