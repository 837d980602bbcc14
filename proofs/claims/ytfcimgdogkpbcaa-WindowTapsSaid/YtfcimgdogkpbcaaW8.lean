/- Window: part, from which output on and up to which a kernel's side lies over the input. -/
import Derived.Test.YtfcimgdogkpbcaaW7
namespace Go.Proofs.Ytfcimgdogkpbcaa.W
open Go.RowKit T1 F Dr
set_option linter.unusedVariables false
set_option linter.unusedSimpArgs false
set_option maxRecDepth 100000

def frV (s p : Int) : Int := (p + s - 1) / s
def toV (n k s p o : Int) : Int := if n - k + p < 0 then 0 else if (n - k + p) / s + 1 ≤ o then (n - k + p) / s + 1 else o
theorem part_neg (n k s p o : Int) (w : World) (hn : 0 ≤ n ∧ n ≤ 100) (hk : 0 ≤ k ∧ k ≤ 100) (hs : 1 ≤ s ∧ s ≤ 100) (hp : 0 ≤ p ∧ p ≤ 100) (ho : 0 ≤ o ∧ o ≤ 100000) (h : n - k + p < 0) :
    Calls Try.prog 31 #[.int .i64 n, .int .i64 k, .int .i64 s, .int .i64 p, .int .i64 o] w fun e w' => e = .returned (.tuple #[.int .i64 ((p + s - 1) / s), .int .i64 0]) ∧ w' = w := by
  have v1 : IntKind.i64.wrap (p + s) = p + s := IntWalk.i64_in _ (by omega)
  have v2 : IntKind.i64.wrap (p + s - 1) = p + s - 1 := IntWalk.i64_in _ (by omega)
  have v3 : IntKind.i64.wrap (n - k) = n - k := IntWalk.i64_in _ (by omega)
  have v4 : IntKind.i64.wrap (n - k + p) = n - k + p := IntWalk.i64_in _ (by omega)
  have v5 : IntKind.i64.wrap ((p + s - 1).tdiv s) = (p + s - 1) / s := IntWalk.i64_quo _ _ ⟨by omega, by omega, hs.1⟩
  have m1 : ¬ s = 0 := by omega
  have d1 : decide (n - k + p < 0) = true := decide_eq_true h
  have d2 : ¬ o < 0 := by omega
  have hs1 := hs.1
  clear hn hk hs hp ho
  go_enter Try.func31, Try.ntmps31
  go_wp2
  go_ret2
  exact ⟨rfl, rfl⟩
theorem part_pos (n k s p o : Int) (w : World) (hn : 0 ≤ n ∧ n ≤ 100) (hk : 0 ≤ k ∧ k ≤ 100) (hs : 1 ≤ s ∧ s ≤ 100) (hp : 0 ≤ p ∧ p ≤ 100) (ho : 0 ≤ o ∧ o ≤ 100000) (h : 0 ≤ n - k + p) :
    Calls Try.prog 31 #[.int .i64 n, .int .i64 k, .int .i64 s, .int .i64 p, .int .i64 o] w fun e w' => e = .returned (.tuple #[.int .i64 ((p + s - 1) / s), .int .i64 (if (n - k + p) / s + 1 ≤ o then (n - k + p) / s + 1 else o)]) ∧ w' = w := by
  have q1 : (n - k + p) / s ≤ n - k + p := Int.ediv_le_self _ h
  have q2 : 0 ≤ (n - k + p) / s := Int.ediv_nonneg h (by omega)
  have v1 : IntKind.i64.wrap (p + s) = p + s := IntWalk.i64_in _ (by omega)
  have v2 : IntKind.i64.wrap (p + s - 1) = p + s - 1 := IntWalk.i64_in _ (by omega)
  have v3 : IntKind.i64.wrap (n - k) = n - k := IntWalk.i64_in _ (by omega)
  have v4 : IntKind.i64.wrap (n - k + p) = n - k + p := IntWalk.i64_in _ (by omega)
  have v5 : IntKind.i64.wrap ((p + s - 1).tdiv s) = (p + s - 1) / s := IntWalk.i64_quo _ _ ⟨by omega, by omega, hs.1⟩
  have v6 : IntKind.i64.wrap ((n - k + p).tdiv s) = (n - k + p) / s := IntWalk.i64_quo _ _ ⟨by omega, by omega, hs.1⟩
  have v7 : IntKind.i64.wrap ((n - k + p) / s + 1) = (n - k + p) / s + 1 := IntWalk.i64_in _ (by omega)
  have m1 : ¬ s = 0 := by omega
  have d1 : decide (n - k + p < 0) = false := decide_eq_false (by omega)
  have hs1 := hs.1
  clear hn hk hs hp ho q1 q2
  by_cases hc : (n - k + p) / s + 1 ≤ o
  · by_cases hc2 : o < (n - k + p) / s + 1
    · omega
    · rw [if_pos hc]
      go_enter Try.func31, Try.ntmps31
      go_wp2
      go_ret2
      exact ⟨rfl, rfl⟩
  · have hc2 : o < (n - k + p) / s + 1 := by omega
    rw [if_neg hc]
    go_enter Try.func31, Try.ntmps31
    go_wp2
    go_ret2
    exact ⟨rfl, rfl⟩
theorem part_is (n k s p o : Int) (w : World) (hn : 0 ≤ n ∧ n ≤ 100) (hk : 0 ≤ k ∧ k ≤ 100) (hs : 1 ≤ s ∧ s ≤ 100) (hp : 0 ≤ p ∧ p ≤ 100) (ho : 0 ≤ o ∧ o ≤ 100000) :
    Calls Try.prog 31 #[.int .i64 n, .int .i64 k, .int .i64 s, .int .i64 p, .int .i64 o] w fun e w' => e = .returned (.tuple #[.int .i64 (frV s p), .int .i64 (toV n k s p o)]) ∧ w' = w := by
  unfold frV toV
  by_cases h : n - k + p < 0
  · rw [if_pos h]
    exact part_neg n k s p o w hn hk hs hp ho h
  · rw [if_neg h]
    exact part_pos n k s p o w hn hk hs hp ho (by omega)
end Go.Proofs.Ytfcimgdogkpbcaa.W
