/- Window: places as complex numbers; rows, columns, whether a number is within bounds. -/
import Derived.Test.YtfcimgdogkpbcaaT4
import Derived.Test.YtfcimgdogkpbcaaF2
namespace Go.Proofs.Ytfcimgdogkpbcaa.W
open Go.RowKit T1 F
set_option linter.unusedVariables false
set_option linter.unusedSimpArgs false
set_option maxRecDepth 100000

/-- A place of so many rows and columns. -/
abbrev pl (a b : Int) : Value := .complex .f64 (F a) (F b)
/-- A number small enough for all that is done here. -/
abbrev Sm (n : Int) : Prop := -1000000 ≤ n ∧ n ≤ 1000000
theorem Sm.lt {n : Int} (h : Sm n) : n.natAbs < 2 ^ 53 := by
  have : n.natAbs ≤ 1000000 := by have := h.1; have := h.2; omega
  exact Nat.lt_of_le_of_lt this (by decide)

theorem plane_is (a b : Int) (w : World) : Calls Try.prog 33 #[.agg #[.int .i64 a, .int .i64 b]] w fun e w' => e = .returned (pl a b) ∧ Below w.heap.size w w' := by
  have HB := Lib.hid (below_alloc (Below.refl _ _) (.cells #[.int .i64 a, .int .i64 b] 34) : Below w.heap.size w _)
  go_enter Try.func33, Try.ntmps33
  go_wp2
  go_ret
  exact ⟨rfl, HB.out⟩

theorem cut_run (a : Int) (h : Sm a) (w : World) : (convert 63 3 (.float .f64 (F a))).run Try.prog w = .ok (.int .i64 a) w := by
  refine run_convert_float_int (P := Try.prog) w 63 3 .f64 .i64 (F a) a (by kernel_rfl) Try.underlying3 ?_
  have e : (FloatKind.f64.decode (F a)).toInt .zero = some a := toInt_F a h.lt
  unfold floatToIntVal
  rw [e]
  have e1 : IntKind.i64.min = -9223372036854775808 := by decide
  have e2 : IntKind.i64.max = 9223372036854775807 := by decide
  have h1 := h.1
  have h2 := h.2
  show (if IntKind.i64.min ≤ a ∧ a ≤ IntKind.i64.max then some a else none) = some a
  rw [e1, e2, if_pos ⟨by omega, by omega⟩]

theorem rows_is (a b : Int) (h : Sm a) (w : World) : Calls Try.prog 36 #[pl a b] w fun e w' => e = .returned (.int .i64 a) ∧ w = w' := by
  have e1 := cut_run a h
  go_enter Try.func36, Try.ntmps36
  go_wp2
  go_ret
  exact ⟨rfl, rfl⟩
theorem cols_is (a b : Int) (h : Sm b) (w : World) : Calls Try.prog 37 #[pl a b] w fun e w' => e = .returned (.int .i64 b) ∧ w = w' := by
  have e1 := cut_run b h
  go_enter Try.func37, Try.ntmps37
  go_wp2
  go_ret
  exact ⟨rfl, rfl⟩

theorem good_is (n l m : Int) (v : Bool) (h : decide (l ≤ n ∧ n ≤ m) = v) (w : World) : Calls Try.prog 35 #[.int .i64 n, .int .i64 l, .int .i64 m] w fun e w' => e = .returned (.bool v) ∧ w = w' := by
  by_cases h1 : l ≤ n
  · have x1 : decide (l ≤ n) = true := decide_eq_true h1
    by_cases h2 : n ≤ m
    · have x2 : decide (n ≤ m) = true := decide_eq_true h2
      rw [decide_eq_true ⟨h1, h2⟩] at h
      subst h
      clear h1 h2
      go_enter Try.func35, Try.ntmps35
      go_wp2
      go_ret
      exact ⟨rfl, rfl⟩
    · have x2 : decide (n ≤ m) = false := decide_eq_false h2
      rw [decide_eq_false (fun k => h2 k.2)] at h
      subst h
      clear h1 h2
      go_enter Try.func35, Try.ntmps35
      go_wp2
      go_ret
      exact ⟨rfl, rfl⟩
  · have x1 : decide (l ≤ n) = false := decide_eq_false h1
    rw [decide_eq_false (fun k => h1 k.1)] at h
    subst h
    clear h1
    go_enter Try.func35, Try.ntmps35
    go_wp2
    go_ret
    exact ⟨rfl, rfl⟩

end Go.Proofs.Ytfcimgdogkpbcaa.W
