/- The reference's Good and Size, and lives; for every shape. No condition beyond those in its statements. -/
import Derived.Test.YtfcimgdogkpbcaaT3
namespace Go.Proofs.Ytfcimgdogkpbcaa.T1
open Go.RowKit
set_option linter.unusedVariables false
set_option maxRecDepth 100000

theorem rgood_0lo (a b c : Int) (w : World) (hx : a < 1) : Calls Try.prog 12 #[.agg #[.int .i64 a, .int .i64 b, .int .i64 c]] w fun e w' => e = .returned (.bool false) ∧ Below w.heap.size w w' := by
  have x0 : decide (a < 1) = true := decide_eq_true (by omega)
  go_enter Try.func12, Try.ntmps12
  go_wp2
  refine wp_loop_rounds 4 ?_
  rw [rounds_succ]
  go_wp2
  go_ret
  exact ⟨rfl, below_alloc (Below.refl _ _) _⟩

theorem rgood_0hi (a b c : Int) (w : World) (hx : 64 < a) : Calls Try.prog 12 #[.agg #[.int .i64 a, .int .i64 b, .int .i64 c]] w fun e w' => e = .returned (.bool false) ∧ Below w.heap.size w w' := by
  have x0 : decide (a < 1) = false := decide_eq_false (by omega)
  have y0 : decide (64 < a) = true := decide_eq_true (by omega)
  go_enter Try.func12, Try.ntmps12
  go_wp2
  refine wp_loop_rounds 4 ?_
  rw [rounds_succ]
  go_wp2
  go_ret
  exact ⟨rfl, below_alloc (Below.refl _ _) _⟩

theorem rgood_1lo (a b c : Int) (w : World) (h0 : 1 ≤ a ∧ a ≤ 64) (hx : b < 1) : Calls Try.prog 12 #[.agg #[.int .i64 a, .int .i64 b, .int .i64 c]] w fun e w' => e = .returned (.bool false) ∧ Below w.heap.size w w' := by
  have x0 : decide (a < 1) = false := decide_eq_false (by omega)
  have y0 : decide (64 < a) = false := decide_eq_false (by omega)
  have x1 : decide (b < 1) = true := decide_eq_true (by omega)
  go_enter Try.func12, Try.ntmps12
  go_wp2
  refine wp_loop_rounds 4 ?_
  rw [rounds_succ]
  go_wp2
  rw [rounds_succ]
  go_wp2
  go_ret
  exact ⟨rfl, below_alloc (Below.refl _ _) _⟩

theorem rgood_1hi (a b c : Int) (w : World) (h0 : 1 ≤ a ∧ a ≤ 64) (hx : 64 < b) : Calls Try.prog 12 #[.agg #[.int .i64 a, .int .i64 b, .int .i64 c]] w fun e w' => e = .returned (.bool false) ∧ Below w.heap.size w w' := by
  have x0 : decide (a < 1) = false := decide_eq_false (by omega)
  have y0 : decide (64 < a) = false := decide_eq_false (by omega)
  have x1 : decide (b < 1) = false := decide_eq_false (by omega)
  have y1 : decide (64 < b) = true := decide_eq_true (by omega)
  go_enter Try.func12, Try.ntmps12
  go_wp2
  refine wp_loop_rounds 4 ?_
  rw [rounds_succ]
  go_wp2
  rw [rounds_succ]
  go_wp2
  go_ret
  exact ⟨rfl, below_alloc (Below.refl _ _) _⟩

theorem rgood_2lo (a b c : Int) (w : World) (h0 : 1 ≤ a ∧ a ≤ 64) (h1 : 1 ≤ b ∧ b ≤ 64) (hx : c < 1) : Calls Try.prog 12 #[.agg #[.int .i64 a, .int .i64 b, .int .i64 c]] w fun e w' => e = .returned (.bool false) ∧ Below w.heap.size w w' := by
  have x0 : decide (a < 1) = false := decide_eq_false (by omega)
  have y0 : decide (64 < a) = false := decide_eq_false (by omega)
  have x1 : decide (b < 1) = false := decide_eq_false (by omega)
  have y1 : decide (64 < b) = false := decide_eq_false (by omega)
  have x2 : decide (c < 1) = true := decide_eq_true (by omega)
  go_enter Try.func12, Try.ntmps12
  go_wp2
  refine wp_loop_rounds 4 ?_
  rw [rounds_succ]
  go_wp2
  rw [rounds_succ]
  go_wp2
  rw [rounds_succ]
  go_wp2
  go_ret
  exact ⟨rfl, below_alloc (Below.refl _ _) _⟩

theorem rgood_2hi (a b c : Int) (w : World) (h0 : 1 ≤ a ∧ a ≤ 64) (h1 : 1 ≤ b ∧ b ≤ 64) (hx : 64 < c) : Calls Try.prog 12 #[.agg #[.int .i64 a, .int .i64 b, .int .i64 c]] w fun e w' => e = .returned (.bool false) ∧ Below w.heap.size w w' := by
  have x0 : decide (a < 1) = false := decide_eq_false (by omega)
  have y0 : decide (64 < a) = false := decide_eq_false (by omega)
  have x1 : decide (b < 1) = false := decide_eq_false (by omega)
  have y1 : decide (64 < b) = false := decide_eq_false (by omega)
  have x2 : decide (c < 1) = false := decide_eq_false (by omega)
  have y2 : decide (64 < c) = true := decide_eq_true (by omega)
  go_enter Try.func12, Try.ntmps12
  go_wp2
  refine wp_loop_rounds 4 ?_
  rw [rounds_succ]
  go_wp2
  rw [rounds_succ]
  go_wp2
  rw [rounds_succ]
  go_wp2
  go_ret
  exact ⟨rfl, below_alloc (Below.refl _ _) _⟩

theorem rgood_all (a b c : Int) (w : World) (h0 : 1 ≤ a ∧ a ≤ 64) (h1 : 1 ≤ b ∧ b ≤ 64) (h2 : 1 ≤ c ∧ c ≤ 64) (v : Bool) (hv : decide (a * b * c ≤ 16384) = v) : Calls Try.prog 12 #[.agg #[.int .i64 a, .int .i64 b, .int .i64 c]] w fun e w' => e = .returned (.bool v) ∧ Below w.heap.size w w' := by
  obtain ⟨p0, p1⟩ := prod2 a b h0.1 h0.2 h1.1 h1.2
  obtain ⟨q0, q1⟩ := prod3 (a * b) c p0 p1 h2.1 h2.2
  have x0 : decide (a < 1) = false := decide_eq_false (by omega)
  have y0 : decide (64 < a) = false := decide_eq_false (by omega)
  have x1 : decide (b < 1) = false := decide_eq_false (by omega)
  have y1 : decide (64 < b) = false := decide_eq_false (by omega)
  have x2 : decide (c < 1) = false := decide_eq_false (by omega)
  have y2 : decide (64 < c) = false := decide_eq_false (by omega)
  go_enter Try.func12, Try.ntmps12
  go_wp2
  refine wp_loop_rounds 4 ?_
  rw [rounds_succ]
  go_wp2
  rw [rounds_succ]
  go_wp2
  rw [rounds_succ]
  go_wp2
  rw [rounds_succ]
  go_wp2
  go_ret
  exact ⟨rfl, below_alloc (Below.refl _ _) _⟩

theorem rgood_is (a b c : Int) (w : World) : Calls Try.prog 12 #[.agg #[.int .i64 a, .int .i64 b, .int .i64 c]] w fun e w' => e = .returned (.bool (decide (0 < sizeR a b c))) ∧ Below w.heap.size w w' := by
  have no : ¬ ((1 ≤ a ∧ a ≤ 64) ∧ (1 ≤ b ∧ b ≤ 64) ∧ (1 ≤ c ∧ c ≤ 64)) → decide (0 < sizeR a b c) = false := by
    intro h
    unfold sizeR
    rw [if_neg (fun k => h ⟨k.1, k.2.1, k.2.2.1⟩)]
    rfl
  by_cases h0 : 1 ≤ a ∧ a ≤ 64
  rotate_left
  · rw [no (fun k => h0 k.1)]
    by_cases l : a < 1
    · exact rgood_0lo a b c w l
    · exact rgood_0hi a b c w (by omega)
  by_cases h1 : 1 ≤ b ∧ b ≤ 64
  rotate_left
  · rw [no (fun k => h1 k.2.1)]
    by_cases l : b < 1
    · exact rgood_1lo a b c w h0 l
    · exact rgood_1hi a b c w h0 (by omega)
  by_cases h2 : 1 ≤ c ∧ c ≤ 64
  rotate_left
  · rw [no (fun k => h2 k.2.2)]
    by_cases l : c < 1
    · exact rgood_2lo a b c w h0 h1 l
    · exact rgood_2hi a b c w h0 h1 (by omega)
  obtain ⟨p0, p1⟩ := prod2 a b h0.1 h0.2 h1.1 h1.2
  obtain ⟨q0, q1⟩ := prod3 (a * b) c p0 p1 h2.1 h2.2
  refine rgood_all a b c w h0 h1 h2 _ ?_
  unfold sizeR
  by_cases h : a * b * c ≤ 16384
  · rw [if_pos ⟨h0, h1, h2, h⟩, decide_eq_true h, decide_eq_true (by omega)]
  · rw [if_neg (fun k => h k.2.2.2), decide_eq_false h]
    rfl

theorem rgood_eq (a b c : Int) (v : Bool) (h : decide (0 < sizeR a b c) = v) (w : World) : Calls Try.prog 12 #[.agg #[.int .i64 a, .int .i64 b, .int .i64 c]] w fun e w' => e = .returned (.bool v) ∧ Below w.heap.size w w' := by
  subst h
  exact rgood_is a b c w

theorem rsize_is (a b c : Int) (w : World) : Calls Try.prog 14 #[.agg #[.int .i64 a, .int .i64 b, .int .i64 c]] w fun e w' => e = .returned (.int .i64 (sizeR a b c)) ∧ Below w.heap.size w w' := by
  by_cases h : sizeR a b c = 0
  · rw [h]
    have g : decide (0 < sizeR a b c) = false := by rw [h]; rfl
    clear h
    go_enter Try.func14, Try.ntmps14
    go_wp2_with (go_at_call 12; refine (rgood_eq a b c false g _).mono ?_; rintro e w' ⟨rfl, hb⟩; have BK := Lib.hid (blk_below (blk_new w (box3 a b c)) hb); have HB := Lib.hid (below_step (below_alloc (Below.refl _ _) (box3 a b c)) hb); clear hb; have hc0 : w'.cell? ⟨w.heap.size, 0, none⟩ = some (.int .i64 a) := (blk_cell BK.out 0).trans rfl; have hc1 : w'.cell? ⟨w.heap.size, 1, none⟩ = some (.int .i64 b) := (blk_cell BK.out 1).trans rfl; have hc2 : w'.cell? ⟨w.heap.size, 2, none⟩ = some (.int .i64 c) := (blk_cell BK.out 2).trans rfl)
    go_ret
    exact ⟨rfl, HB.out⟩
  · obtain ⟨⟨a0, a1⟩, ⟨b0, b1⟩, ⟨c0, c1⟩, hl, hs⟩ := size_nz a b c h
    obtain ⟨p0, p1⟩ := prod2 a b a0 a1 b0 b1
    obtain ⟨q0, q1⟩ := prod3 (a * b) c p0 p1 c0 c1
    have g : decide (0 < sizeR a b c) = true := decide_eq_true (by omega)
    rw [hs]
    clear h hs
    go_enter Try.func14, Try.ntmps14
    go_wp2_with (go_at_call 12; refine (rgood_eq a b c true g _).mono ?_; rintro e w' ⟨rfl, hb⟩; have BK := Lib.hid (blk_below (blk_new w (box3 a b c)) hb); have HB := Lib.hid (below_step (below_alloc (Below.refl _ _) (box3 a b c)) hb); clear hb; have hc0 : w'.cell? ⟨w.heap.size, 0, none⟩ = some (.int .i64 a) := (blk_cell BK.out 0).trans rfl; have hc1 : w'.cell? ⟨w.heap.size, 1, none⟩ = some (.int .i64 b) := (blk_cell BK.out 1).trans rfl; have hc2 : w'.cell? ⟨w.heap.size, 2, none⟩ = some (.int .i64 c) := (blk_cell BK.out 2).trans rfl)
    go_ret
    exact ⟨rfl, HB.out⟩

theorem lives_is (w : World) : Calls Try.prog 15 #[] w fun e w' => e = .returned (.bool true) ∧ Below w.heap.size w w' := by
  have HB0 := Lib.hid (Below.refl w.heap.size w)
  have e1 : atR 2 3 4 1 2 3 = (23, true) := by decide
  have e2 : decide (0 < sizeR 1 1 1) = true := by decide
  have C1 : ∀ w0, Calls Try.prog 16 #[.agg #[.int .i64 2, .int .i64 3, .int .i64 4], .int .i64 1, .int .i64 2, .int .i64 3] w0 fun e w' => e = .returned (.tuple #[.int .i64 23, .bool true]) ∧ Below w0.heap.size w0 w' := by
    intro w0
    have := at_any 2 3 4 1 2 3 w0
    rwa [e1] at this
  have C2 : ∀ w0, Calls Try.prog 11 #[.agg #[.int .i64 1, .int .i64 1, .int .i64 1]] w0 fun e w' => e = .returned (.bool true) ∧ Below w0.heap.size w0 w' := by
    intro w0
    have := good_is 1 1 1 w0
    rwa [e2] at this
  have K1 := Lib.hid C1
  have K2 := Lib.hid C2
  clear C1 C2 e1 e2
  go_enter Try.func15, Try.ntmps15
  go_wp2_with (first | (go_at_call 16; refine (K1.out _).mono ?_; rintro e w' ⟨rfl, hb⟩; have HB := Lib.hid hb; clear hb) | (go_at_call 11; refine (K2.out _).mono ?_; rintro e w2 ⟨rfl, hb⟩; have HB2 := Lib.hid (below_step HB.out hb); clear hb))
  go_ret
  exact ⟨rfl, HB2.out⟩

end Go.Proofs.Ytfcimgdogkpbcaa.T1
