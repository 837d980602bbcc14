/- tensor.size: the product of a shape's three numbers, or 0; for every shape. No condition beyond those in its statements. -/
import Derived.Test.YtfcimgdogkpbcaaProg
import Derived.WalkKit
import Derived.Below
import Derived.WalkLawsBesides
import Derived.WalkSpells
import Derived.Outline
import Derived.LoopN
import Derived.BigQuiet
import Derived.Deep.QuietTactic
import Derived.KernelRfl
import Derived.Lib.Hide
namespace Go.Proofs.Ytfcimgdogkpbcaa.T1
open Go.RowKit
set_option linter.unusedVariables false
set_option maxRecDepth 100000

theorem below_alloc {w W : World} (h : Below w.heap.size w W) (o : Obj) : Below w.heap.size w (W.alloc o) := h.alloc h.size o


def bigB (n : Int) : Bool := decide (n < 1) || decide (64 < n)
/-- How many elements a shape has, or nought. -/
def sizeR (a b c : Int) : Int := if (1 ≤ a ∧ a ≤ 64) ∧ (1 ≤ b ∧ b ≤ 64) ∧ (1 ≤ c ∧ c ≤ 64) ∧ a * b * c ≤ 16384 then a * b * c else 0

theorem prod2 (a b : Int) (ha0 : 1 ≤ a) (ha1 : a ≤ 64) (hb0 : 1 ≤ b) (hb1 : b ≤ 64) : 1 ≤ a * b ∧ a * b ≤ 4096 := by
  have h1 : 1 * 1 ≤ a * b := Int.mul_le_mul ha0 hb0 (by decide) (by omega)
  have h2 : a * b ≤ 64 * 64 := Int.mul_le_mul ha1 hb1 (by omega) (by decide)
  omega
theorem prod3 (p c : Int) (ha0 : 1 ≤ p) (ha1 : p ≤ 4096) (hb0 : 1 ≤ c) (hb1 : c ≤ 64) : 1 ≤ p * c ∧ p * c ≤ 262144 := by
  have h1 : 1 * 1 ≤ p * c := Int.mul_le_mul ha0 hb0 (by decide) (by omega)
  have h2 : p * c ≤ 4096 * 64 := Int.mul_le_mul ha1 hb1 (by omega) (by decide)
  omega

theorem i0 (a b c : Int) : ∀ w, (Instr.index 22 (.agg #[.int .i64 a, .int .i64 b, .int .i64 c]) (.int .i64 0)).run Try.prog w = .ok (.int .i64 a) w := fun _ => by kernel_rfl
theorem i1 (a b c : Int) : ∀ w, (Instr.index 22 (.agg #[.int .i64 a, .int .i64 b, .int .i64 c]) (.int .i64 1)).run Try.prog w = .ok (.int .i64 b) w := fun _ => by kernel_rfl
theorem i2 (a b c : Int) : ∀ w, (Instr.index 22 (.agg #[.int .i64 a, .int .i64 b, .int .i64 c]) (.int .i64 2)).run Try.prog w = .ok (.int .i64 c) w := fun _ => by kernel_rfl

/-- The value and the world that a call of size leaves. -/
def SizePost (a b c : Int) (w : World) (e : Ending) (w' : World) : Prop := e = .returned (.int .i64 (sizeR a b c)) ∧ Below w.heap.size w w'

set_option maxHeartbeats 1000000 in
theorem size_a (a b c : Int) (w : World) (h : a < 1 ∨ 64 < a) : Calls Try.prog 28 #[.agg #[.int .i64 a, .int .i64 b, .int .i64 c]] w (SizePost a b c w) := by
  have hf : sizeR a b c = 0 := by unfold sizeR; rw [if_neg (by omega)]
  have HF := Lib.hid hf
  clear hf
  have j0 := i0 a b c
  rcases h with h | h
  · have x1 : decide (a < 1) = true := decide_eq_true h
    go_enter Try.func28, Try.ntmps28
    go_wp2
    refine wp_loop_rounds 4 ?_
    rw [rounds_succ]
    go_wp2
    go_ret
    exact ⟨by rw [HF.out]; rfl, below_alloc (Below.refl _ _) _⟩
  · have x1 : decide (a < 1) = false := decide_eq_false (by omega)
    have x2 : decide (64 < a) = true := decide_eq_true h
    go_enter Try.func28, Try.ntmps28
    go_wp2
    refine wp_loop_rounds 4 ?_
    rw [rounds_succ]
    go_wp2
    go_ret
    exact ⟨by rw [HF.out]; rfl, below_alloc (Below.refl _ _) _⟩

set_option maxHeartbeats 1000000 in
theorem size_b (a b c : Int) (w : World) (ha0 : 1 ≤ a) (ha1 : a ≤ 64) (h : b < 1 ∨ 64 < b) : Calls Try.prog 28 #[.agg #[.int .i64 a, .int .i64 b, .int .i64 c]] w (SizePost a b c w) := by
  have hf : sizeR a b c = 0 := by unfold sizeR; rw [if_neg (by omega)]
  have HF := Lib.hid hf
  clear hf
  have j0 := i0 a b c
  have j1 := i1 a b c
  have ga1 : decide (a < 1) = false := decide_eq_false (by omega)
  have ga2 : decide (64 < a) = false := decide_eq_false (by omega)
  rcases h with h | h
  · have x1 : decide (b < 1) = true := decide_eq_true h
    go_enter Try.func28, Try.ntmps28
    go_wp2
    refine wp_loop_rounds 4 ?_
    rw [rounds_succ]
    go_wp2
    rw [rounds_succ]
    go_wp2
    go_ret
    exact ⟨by rw [HF.out]; rfl, below_alloc (Below.refl _ _) _⟩
  · have x1 : decide (b < 1) = false := decide_eq_false (by omega)
    have x2 : decide (64 < b) = true := decide_eq_true h
    go_enter Try.func28, Try.ntmps28
    go_wp2
    refine wp_loop_rounds 4 ?_
    rw [rounds_succ]
    go_wp2
    rw [rounds_succ]
    go_wp2
    go_ret
    exact ⟨by rw [HF.out]; rfl, below_alloc (Below.refl _ _) _⟩

set_option maxHeartbeats 1000000 in
theorem size_c (a b c : Int) (w : World) (ha0 : 1 ≤ a) (ha1 : a ≤ 64) (hb0 : 1 ≤ b) (hb1 : b ≤ 64) (h : c < 1 ∨ 64 < c) : Calls Try.prog 28 #[.agg #[.int .i64 a, .int .i64 b, .int .i64 c]] w (SizePost a b c w) := by
  have hf : sizeR a b c = 0 := by unfold sizeR; rw [if_neg (by omega)]
  have HF := Lib.hid hf
  clear hf
  have j0 := i0 a b c
  have j1 := i1 a b c
  have j2 := i2 a b c
  have ga1 : decide (a < 1) = false := decide_eq_false (by omega)
  have ga2 : decide (64 < a) = false := decide_eq_false (by omega)
  have gb1 : decide (b < 1) = false := decide_eq_false (by omega)
  have gb2 : decide (64 < b) = false := decide_eq_false (by omega)
  have hx : (decide (c < 1) = true) ∨ (decide (c < 1) = false ∧ decide (64 < c) = true) := by
    rcases h with h | h
    · exact .inl (decide_eq_true h)
    · exact .inr ⟨decide_eq_false (by omega), decide_eq_true h⟩
  clear h
  rcases hx with x1 | ⟨x1, x2⟩
  all_goals
    go_enter Try.func28, Try.ntmps28
    go_wp2
    refine wp_loop_rounds 4 ?_
    rw [rounds_succ]
    go_wp2
    rw [rounds_succ]
    go_wp2
    rw [rounds_succ]
    go_wp2
    go_ret
    exact ⟨by rw [HF.out]; rfl, below_alloc (Below.refl _ _) _⟩

set_option maxHeartbeats 1000000 in
theorem size_all (a b c : Int) (w : World) (ha0 : 1 ≤ a) (ha1 : a ≤ 64) (hb0 : 1 ≤ b) (hb1 : b ≤ 64) (hc0 : 1 ≤ c) (hc1 : c ≤ 64) : Calls Try.prog 28 #[.agg #[.int .i64 a, .int .i64 b, .int .i64 c]] w (SizePost a b c w) := by
  obtain ⟨p0, p1⟩ := prod2 a b ha0 ha1 hb0 hb1
  obtain ⟨q0, q1⟩ := prod3 (a * b) c p0 p1 hc0 hc1
  have j0 := i0 a b c
  have j1 := i1 a b c
  have j2 := i2 a b c
  have ga1 : decide (a < 1) = false := decide_eq_false (by omega)
  have ga2 : decide (64 < a) = false := decide_eq_false (by omega)
  have gb1 : decide (b < 1) = false := decide_eq_false (by omega)
  have gb2 : decide (64 < b) = false := decide_eq_false (by omega)
  have gc1 : decide (c < 1) = false := decide_eq_false (by omega)
  have gc2 : decide (64 < c) = false := decide_eq_false (by omega)
  by_cases h : 16384 < a * b * c
  · have hf : sizeR a b c = 0 := by unfold sizeR; rw [if_neg (by omega)]
    have HF := Lib.hid hf
    clear hf
    go_enter Try.func28, Try.ntmps28
    go_wp2
    refine wp_loop_rounds 4 ?_
    rw [rounds_succ]
    go_wp2
    rw [rounds_succ]
    go_wp2
    rw [rounds_succ]
    go_wp2
    rw [rounds_succ]
    go_wp2
    go_ret
    exact ⟨by rw [HF.out]; rfl, below_alloc (Below.refl _ _) _⟩
  · have hf : sizeR a b c = a * b * c := by unfold sizeR; rw [if_pos ⟨⟨ha0, ha1⟩, ⟨hb0, hb1⟩, ⟨hc0, hc1⟩, by omega⟩]
    have HF := Lib.hid hf
    clear hf
    go_enter Try.func28, Try.ntmps28
    go_wp2
    refine wp_loop_rounds 4 ?_
    rw [rounds_succ]
    go_wp2
    rw [rounds_succ]
    go_wp2
    rw [rounds_succ]
    go_wp2
    rw [rounds_succ]
    go_wp2
    go_ret
    exact ⟨by rw [HF.out]; rfl, below_alloc (Below.refl _ _) _⟩

/-- size: for every shape. -/
theorem size_any (a b c : Int) (w : World) : Calls Try.prog 28 #[.agg #[.int .i64 a, .int .i64 b, .int .i64 c]] w (SizePost a b c w) := by
  by_cases h1 : a < 1 ∨ 64 < a
  · exact size_a a b c w h1
  by_cases h2 : b < 1 ∨ 64 < b
  · exact size_b a b c w (by omega) (by omega) h2
  by_cases h3 : c < 1 ∨ 64 < c
  · exact size_c a b c w (by omega) (by omega) (by omega) (by omega) h3
  · exact size_all a b c w (by omega) (by omega) (by omega) (by omega) (by omega) (by omega)
end Go.Proofs.Ytfcimgdogkpbcaa.T1
