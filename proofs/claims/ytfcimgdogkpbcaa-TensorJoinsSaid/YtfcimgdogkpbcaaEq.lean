/- Equality of two arrays of three ints as one Bool. No condition beyond those in its statements. -/
import Derived.Test.YtfcimgdogkpbcaaT7
import Derived.ChangeKeysEq
namespace Go.Proofs.Ytfcimgdogkpbcaa.T1
open Go.RowKit
set_option linter.unusedSimpArgs false
theorem info3 : ∃ i, Try.prog.info? 3 = some i := by
  have h : (Try.prog.info? 3).isSome = true := by kernel_rfl
  exact Option.isSome_iff_exists.mp h
theorem cells3 : Try.prog.cellsOf 3 = 1 := by kernel_rfl
theorem part3 (xs : Array Value) (i : Nat) (k : Int) (w : World) (h : xs[i]? = some (.int .i64 k)) : (part 3 xs i).run Try.prog w = .ok (.int .i64 k) w := by
  unfold part
  simp [h, go_sem]
theorem eq3 (p q r y x z : Int) (w : World) : (Op.equalIn 10000 22 (.agg #[.int .i64 p, .int .i64 q, .int .i64 r]) (.agg #[.int .i64 y, .int .i64 x, .int .i64 z])).run Try.prog w = .ok ((p == y) && ((q == x) && (r == z))) w := by
  obtain ⟨i, hi⟩ := info3
  rw [show 10000 = 9998 + 1 + 1 from rfl, run_equalIn_array w (9998 + 1) _ _ Try.underlying22 hi, cells3]
  simp only [Op.eqItems, List.range, List.range.loop]
  have A0 := part3 #[Value.int IntKind.i64 p, Value.int IntKind.i64 q, Value.int IntKind.i64 r] (0 * 1) p w rfl
  have A1 := part3 #[Value.int IntKind.i64 p, Value.int IntKind.i64 q, Value.int IntKind.i64 r] (1 * 1) q w rfl
  have A2 := part3 #[Value.int IntKind.i64 p, Value.int IntKind.i64 q, Value.int IntKind.i64 r] (2 * 1) r w rfl
  have B0 := part3 #[Value.int IntKind.i64 y, Value.int IntKind.i64 x, Value.int IntKind.i64 z] (0 * 1) y w rfl
  have B1 := part3 #[Value.int IntKind.i64 y, Value.int IntKind.i64 x, Value.int IntKind.i64 z] (1 * 1) x w rfl
  have B2 := part3 #[Value.int IntKind.i64 y, Value.int IntKind.i64 x, Value.int IntKind.i64 z] (2 * 1) z w rfl
  have E := fun (a b : Int) => run_equalIn_int (P := Try.prog) w 9998 3 .i64 .i64 a b Try.underlying3
  cases h1 : (p == y) <;> cases h2 : (q == x) <;> cases h3 : (r == z) <;>
    simp only [Sem.run_bind, A0, A1, A2, B0, B1, B2, E, Result.andThen_ok, h1, h2, h3, Bool.not_false, Bool.not_true, Bool.and_true, Bool.and_false, Bool.true_and, Bool.false_and, ↓reduceIte, Bool.false_eq_true] <;> rfl
end Go.Proofs.Ytfcimgdogkpbcaa.T1
