/- The reference's At; for every shape and place. No condition beyond those in its statements. -/
import Derived.Test.YtfcimgdogkpbcaaT4
namespace Go.Proofs.Ytfcimgdogkpbcaa.T1
open Go.RowKit
set_option linter.unusedVariables false
set_option maxRecDepth 100000

set_option maxHeartbeats 4000000 in
theorem rat_none (a b c y x z : Int) (w : World) (g : decide (0 < sizeR a b c) = false) : Calls Try.prog 17 #[.agg #[.int .i64 a, .int .i64 b, .int .i64 c], .int .i64 y, .int .i64 x, .int .i64 z] w fun e w' => e = .returned (.int .i64 (-1)) ∧ Below w.heap.size w w' := by
  go_enter Try.func17, Try.ntmps17
  go_wp2_with (go_at_call 12; refine (rgood_eq a b c false g _).mono ?_; rintro e w' ⟨rfl, hb⟩; have BK := Lib.hid (blk_below (blk_new w (box3 a b c)) hb); have HB := Lib.hid (below_step (below_alloc (Below.refl _ _) (box3 a b c)) hb); clear hb; have hc0 : w'.cell? ⟨w.heap.size, 0, none⟩ = some (.int .i64 a) := (blk_cell BK.out 0).trans rfl; have hc1 : w'.cell? ⟨w.heap.size, 1, none⟩ = some (.int .i64 b) := (blk_cell BK.out 1).trans rfl; have hc2 : w'.cell? ⟨w.heap.size, 2, none⟩ = some (.int .i64 c) := (blk_cell BK.out 2).trans rfl)
  go_ret
  exact ⟨rfl, HB.out⟩

set_option maxHeartbeats 4000000 in
theorem rat_0lo (a b c y x z : Int) (w : World) (g : decide (0 < sizeR a b c) = true) (hx : y < 0) : Calls Try.prog 17 #[.agg #[.int .i64 a, .int .i64 b, .int .i64 c], .int .i64 y, .int .i64 x, .int .i64 z] w fun e w' => e = .returned (.int .i64 (-1)) ∧ Below w.heap.size w w' := by
  have g0 : decide (y < 0) = true := decide_eq_true (by omega)
  go_enter Try.func17, Try.ntmps17
  go_wp2_with (go_at_call 12; refine (rgood_eq a b c true g _).mono ?_; rintro e w' ⟨rfl, hb⟩; have BK := Lib.hid (blk_below (blk_new w (box3 a b c)) hb); have HB := Lib.hid (below_step (below_alloc (Below.refl _ _) (box3 a b c)) hb); clear hb; have hc0 : w'.cell? ⟨w.heap.size, 0, none⟩ = some (.int .i64 a) := (blk_cell BK.out 0).trans rfl; have hc1 : w'.cell? ⟨w.heap.size, 1, none⟩ = some (.int .i64 b) := (blk_cell BK.out 1).trans rfl; have hc2 : w'.cell? ⟨w.heap.size, 2, none⟩ = some (.int .i64 c) := (blk_cell BK.out 2).trans rfl)
  go_ret
  exact ⟨rfl, HB.out⟩

set_option maxHeartbeats 4000000 in
theorem rat_0hi (a b c y x z : Int) (w : World) (g : decide (0 < sizeR a b c) = true) (hx : 0 ≤ y) (hy : a ≤ y) : Calls Try.prog 17 #[.agg #[.int .i64 a, .int .i64 b, .int .i64 c], .int .i64 y, .int .i64 x, .int .i64 z] w fun e w' => e = .returned (.int .i64 (-1)) ∧ Below w.heap.size w w' := by
  have g0 : decide (y < 0) = false := decide_eq_false (by omega)
  have k0 : decide (a ≤ y) = true := decide_eq_true (by omega)
  go_enter Try.func17, Try.ntmps17
  go_wp2_with (go_at_call 12; refine (rgood_eq a b c true g _).mono ?_; rintro e w' ⟨rfl, hb⟩; have BK := Lib.hid (blk_below (blk_new w (box3 a b c)) hb); have HB := Lib.hid (below_step (below_alloc (Below.refl _ _) (box3 a b c)) hb); clear hb; have hc0 : w'.cell? ⟨w.heap.size, 0, none⟩ = some (.int .i64 a) := (blk_cell BK.out 0).trans rfl; have hc1 : w'.cell? ⟨w.heap.size, 1, none⟩ = some (.int .i64 b) := (blk_cell BK.out 1).trans rfl; have hc2 : w'.cell? ⟨w.heap.size, 2, none⟩ = some (.int .i64 c) := (blk_cell BK.out 2).trans rfl)
  go_ret
  exact ⟨rfl, HB.out⟩

set_option maxHeartbeats 4000000 in
theorem rat_1lo (a b c y x z : Int) (w : World) (g : decide (0 < sizeR a b c) = true) (h0 : 0 ≤ y ∧ y < a) (hx : x < 0) : Calls Try.prog 17 #[.agg #[.int .i64 a, .int .i64 b, .int .i64 c], .int .i64 y, .int .i64 x, .int .i64 z] w fun e w' => e = .returned (.int .i64 (-1)) ∧ Below w.heap.size w w' := by
  have g0 : decide (y < 0) = false := decide_eq_false (by omega)
  have k0 : decide (a ≤ y) = false := decide_eq_false (by omega)
  have g1 : decide (x < 0) = true := decide_eq_true (by omega)
  go_enter Try.func17, Try.ntmps17
  go_wp2_with (go_at_call 12; refine (rgood_eq a b c true g _).mono ?_; rintro e w' ⟨rfl, hb⟩; have BK := Lib.hid (blk_below (blk_new w (box3 a b c)) hb); have HB := Lib.hid (below_step (below_alloc (Below.refl _ _) (box3 a b c)) hb); clear hb; have hc0 : w'.cell? ⟨w.heap.size, 0, none⟩ = some (.int .i64 a) := (blk_cell BK.out 0).trans rfl; have hc1 : w'.cell? ⟨w.heap.size, 1, none⟩ = some (.int .i64 b) := (blk_cell BK.out 1).trans rfl; have hc2 : w'.cell? ⟨w.heap.size, 2, none⟩ = some (.int .i64 c) := (blk_cell BK.out 2).trans rfl)
  go_ret
  exact ⟨rfl, HB.out⟩

set_option maxHeartbeats 4000000 in
theorem rat_1hi (a b c y x z : Int) (w : World) (g : decide (0 < sizeR a b c) = true) (h0 : 0 ≤ y ∧ y < a) (hx : 0 ≤ x) (hy : b ≤ x) : Calls Try.prog 17 #[.agg #[.int .i64 a, .int .i64 b, .int .i64 c], .int .i64 y, .int .i64 x, .int .i64 z] w fun e w' => e = .returned (.int .i64 (-1)) ∧ Below w.heap.size w w' := by
  have g0 : decide (y < 0) = false := decide_eq_false (by omega)
  have k0 : decide (a ≤ y) = false := decide_eq_false (by omega)
  have g1 : decide (x < 0) = false := decide_eq_false (by omega)
  have k1 : decide (b ≤ x) = true := decide_eq_true (by omega)
  go_enter Try.func17, Try.ntmps17
  go_wp2_with (go_at_call 12; refine (rgood_eq a b c true g _).mono ?_; rintro e w' ⟨rfl, hb⟩; have BK := Lib.hid (blk_below (blk_new w (box3 a b c)) hb); have HB := Lib.hid (below_step (below_alloc (Below.refl _ _) (box3 a b c)) hb); clear hb; have hc0 : w'.cell? ⟨w.heap.size, 0, none⟩ = some (.int .i64 a) := (blk_cell BK.out 0).trans rfl; have hc1 : w'.cell? ⟨w.heap.size, 1, none⟩ = some (.int .i64 b) := (blk_cell BK.out 1).trans rfl; have hc2 : w'.cell? ⟨w.heap.size, 2, none⟩ = some (.int .i64 c) := (blk_cell BK.out 2).trans rfl)
  go_ret
  exact ⟨rfl, HB.out⟩

set_option maxHeartbeats 4000000 in
theorem rat_2lo (a b c y x z : Int) (w : World) (g : decide (0 < sizeR a b c) = true) (h0 : 0 ≤ y ∧ y < a) (h1 : 0 ≤ x ∧ x < b) (hx : z < 0) : Calls Try.prog 17 #[.agg #[.int .i64 a, .int .i64 b, .int .i64 c], .int .i64 y, .int .i64 x, .int .i64 z] w fun e w' => e = .returned (.int .i64 (-1)) ∧ Below w.heap.size w w' := by
  have g0 : decide (y < 0) = false := decide_eq_false (by omega)
  have k0 : decide (a ≤ y) = false := decide_eq_false (by omega)
  have g1 : decide (x < 0) = false := decide_eq_false (by omega)
  have k1 : decide (b ≤ x) = false := decide_eq_false (by omega)
  have g2 : decide (z < 0) = true := decide_eq_true (by omega)
  go_enter Try.func17, Try.ntmps17
  go_wp2_with (go_at_call 12; refine (rgood_eq a b c true g _).mono ?_; rintro e w' ⟨rfl, hb⟩; have BK := Lib.hid (blk_below (blk_new w (box3 a b c)) hb); have HB := Lib.hid (below_step (below_alloc (Below.refl _ _) (box3 a b c)) hb); clear hb; have hc0 : w'.cell? ⟨w.heap.size, 0, none⟩ = some (.int .i64 a) := (blk_cell BK.out 0).trans rfl; have hc1 : w'.cell? ⟨w.heap.size, 1, none⟩ = some (.int .i64 b) := (blk_cell BK.out 1).trans rfl; have hc2 : w'.cell? ⟨w.heap.size, 2, none⟩ = some (.int .i64 c) := (blk_cell BK.out 2).trans rfl)
  go_ret
  exact ⟨rfl, HB.out⟩

set_option maxHeartbeats 4000000 in
theorem rat_2hi (a b c y x z : Int) (w : World) (g : decide (0 < sizeR a b c) = true) (h0 : 0 ≤ y ∧ y < a) (h1 : 0 ≤ x ∧ x < b) (hx : 0 ≤ z) (hy : c ≤ z) : Calls Try.prog 17 #[.agg #[.int .i64 a, .int .i64 b, .int .i64 c], .int .i64 y, .int .i64 x, .int .i64 z] w fun e w' => e = .returned (.int .i64 (-1)) ∧ Below w.heap.size w w' := by
  have g0 : decide (y < 0) = false := decide_eq_false (by omega)
  have k0 : decide (a ≤ y) = false := decide_eq_false (by omega)
  have g1 : decide (x < 0) = false := decide_eq_false (by omega)
  have k1 : decide (b ≤ x) = false := decide_eq_false (by omega)
  have g2 : decide (z < 0) = false := decide_eq_false (by omega)
  have k2 : decide (c ≤ z) = true := decide_eq_true (by omega)
  go_enter Try.func17, Try.ntmps17
  go_wp2_with (go_at_call 12; refine (rgood_eq a b c true g _).mono ?_; rintro e w' ⟨rfl, hb⟩; have BK := Lib.hid (blk_below (blk_new w (box3 a b c)) hb); have HB := Lib.hid (below_step (below_alloc (Below.refl _ _) (box3 a b c)) hb); clear hb; have hc0 : w'.cell? ⟨w.heap.size, 0, none⟩ = some (.int .i64 a) := (blk_cell BK.out 0).trans rfl; have hc1 : w'.cell? ⟨w.heap.size, 1, none⟩ = some (.int .i64 b) := (blk_cell BK.out 1).trans rfl; have hc2 : w'.cell? ⟨w.heap.size, 2, none⟩ = some (.int .i64 c) := (blk_cell BK.out 2).trans rfl)
  go_ret
  exact ⟨rfl, HB.out⟩

set_option maxHeartbeats 4000000 in
theorem rat_good (a b c y x z : Int) (w : World) (g : decide (0 < sizeR a b c) = true) (h0 : 0 ≤ y ∧ y < a) (h1 : 0 ≤ x ∧ x < b) (h2 : 0 ≤ z ∧ z < c) (u0 : 0 ≤ y * b) (u1 : y * b ≤ 4096) (u2 : 0 ≤ y * b * c) (u3 : y * b * c ≤ 262144) (u4 : 0 ≤ x * c) (u5 : x * c ≤ 4096) (hz : z < 64) : Calls Try.prog 17 #[.agg #[.int .i64 a, .int .i64 b, .int .i64 c], .int .i64 y, .int .i64 x, .int .i64 z] w fun e w' => e = .returned (.int .i64 (y * b * c + x * c + z)) ∧ Below w.heap.size w w' := by
  have g0 : decide (y < 0) = false := decide_eq_false (by omega)
  have k0 : decide (a ≤ y) = false := decide_eq_false (by omega)
  have g1 : decide (x < 0) = false := decide_eq_false (by omega)
  have k1 : decide (b ≤ x) = false := decide_eq_false (by omega)
  have g2 : decide (z < 0) = false := decide_eq_false (by omega)
  have k2 : decide (c ≤ z) = false := decide_eq_false (by omega)
  go_enter Try.func17, Try.ntmps17
  go_wp2_with (go_at_call 12; refine (rgood_eq a b c true g _).mono ?_; rintro e w' ⟨rfl, hb⟩; have BK := Lib.hid (blk_below (blk_new w (box3 a b c)) hb); have HB := Lib.hid (below_step (below_alloc (Below.refl _ _) (box3 a b c)) hb); clear hb; have hc0 : w'.cell? ⟨w.heap.size, 0, none⟩ = some (.int .i64 a) := (blk_cell BK.out 0).trans rfl; have hc1 : w'.cell? ⟨w.heap.size, 1, none⟩ = some (.int .i64 b) := (blk_cell BK.out 1).trans rfl; have hc2 : w'.cell? ⟨w.heap.size, 2, none⟩ = some (.int .i64 c) := (blk_cell BK.out 2).trans rfl)
  go_ret
  exact ⟨rfl, HB.out⟩

/-- The document's place: below nought, if there is none. -/
def ratR (a b c y x z : Int) : Int := if (atR a b c y x z).2 = true then (atR a b c y x z).1 else -1

theorem rat_any (a b c y x z : Int) (w : World) : Calls Try.prog 17 #[.agg #[.int .i64 a, .int .i64 b, .int .i64 c], .int .i64 y, .int .i64 x, .int .i64 z] w fun e w' => e = .returned (.int .i64 (ratR a b c y x z)) ∧ Below w.heap.size w w' := by
  have no : ¬ (sizeR a b c ≠ 0 ∧ (0 ≤ y ∧ y < a) ∧ (0 ≤ x ∧ x < b) ∧ (0 ≤ z ∧ z < c)) → ratR a b c y x z = -1 := by
    intro h
    unfold ratR atR
    rw [if_neg h]
    rfl
  by_cases h : sizeR a b c = 0
  · rw [no (fun k => k.1 h)]
    exact rat_none a b c y x z w (by rw [h]; rfl)
  obtain ⟨⟨a0, a1⟩, ⟨b0, b1⟩, ⟨c0, c1⟩, hl, hs⟩ := size_nz a b c h
  obtain ⟨p0, p1⟩ := prod2 a b a0 a1 b0 b1
  obtain ⟨q0, q1⟩ := prod3 (a * b) c p0 p1 c0 c1
  have g : decide (0 < sizeR a b c) = true := decide_eq_true (by omega)
  by_cases k0 : 0 ≤ y ∧ y < a
  rotate_left
  · rw [no (fun k => k0 k.2.1)]
    by_cases l : y < 0
    · exact rat_0lo a b c y x z w g l
    · exact rat_0hi a b c y x z w g (by omega) (by omega)
  by_cases k1 : 0 ≤ x ∧ x < b
  rotate_left
  · rw [no (fun k => k1 k.2.2.1)]
    by_cases l : x < 0
    · exact rat_1lo a b c y x z w g k0 l
    · exact rat_1hi a b c y x z w g k0 (by omega) (by omega)
  by_cases k2 : 0 ≤ z ∧ z < c
  rotate_left
  · rw [no (fun k => k2 k.2.2.2)]
    by_cases l : z < 0
    · exact rat_2lo a b c y x z w g k0 k1 l
    · exact rat_2hi a b c y x z w g k0 k1 (by omega) (by omega)
  have e : ratR a b c y x z = y * b * c + x * c + z := by
    have e0 : atR a b c y x z = ((y * b + x) * c + z, true) := by unfold atR; rw [if_pos ⟨h, k0, k1, k2⟩]
    unfold ratR
    rw [e0, if_pos rfl, Int.add_mul]
  rw [e]
  have u0 : 0 ≤ y * b := Int.mul_nonneg k0.1 (by omega)
  have u1 : y * b ≤ 63 * 64 := Int.mul_le_mul (by omega) b1 (by omega) (by decide)
  have u2 : 0 ≤ y * b * c := Int.mul_nonneg u0 (by omega)
  have u3 : y * b * c ≤ 4096 * 64 := Int.mul_le_mul (by omega) c1 (by omega) (by decide)
  have u4 : 0 ≤ x * c := Int.mul_nonneg k1.1 (by omega)
  have u5 : x * c ≤ 63 * 64 := Int.mul_le_mul (by omega) c1 (by omega) (by decide)
  exact rat_good a b c y x z w g k0 k1 k2 u0 (by omega) u2 (by omega) u4 (by omega) (by omega)

end Go.Proofs.Ytfcimgdogkpbcaa.T1
