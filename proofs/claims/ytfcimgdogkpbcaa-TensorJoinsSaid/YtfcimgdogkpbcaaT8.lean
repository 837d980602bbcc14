/- The law TensorAt, walked; for every shape and place. No condition beyond those in its statements. -/
import Derived.Test.YtfcimgdogkpbcaaT7
import Derived.Test.YtfcimgdogkpbcaaEq
import Derived.Deep.RegionWith
namespace Go.Proofs.Ytfcimgdogkpbcaa.T1
open Go.RowKit
set_option linter.unusedVariables false
set_option maxRecDepth 100000

/-- The boxes of two shapes, in a world behind the one that a call began in. -/
structure H2 (a b c d e f : Int) (w W : World) : Prop where
  b0 : W.heap[w.heap.size]? = some (box3 a b c)
  b1 : W.heap[w.heap.size + 1]? = some (box3 d e f)
  bel : Below w.heap.size w W
theorem H2.step {a b c d e f : Int} {w W W' : World} (J : H2 a b c d e f w W) (hb : Below W.heap.size W W') : H2 a b c d e f w W' := ⟨blk_below J.b0 hb, blk_below J.b1 hb, below_step J.bel hb⟩
theorem H2.alloc {a b c d e f : Int} {w W : World} (J : H2 a b c d e f w W) (o : Obj) : H2 a b c d e f w (W.alloc o) := ⟨blk_alloc J.b0 o, blk_alloc J.b1 o, below_alloc J.bel o⟩
theorem H2.start (a b c d e f : Int) (w : World) : H2 a b c d e f w ((w.alloc (box3 a b c)).alloc (box3 d e f)) :=
  ⟨blk_alloc (blk_new w _) _, blk_new2 w _ _, below_alloc (below_alloc (Below.refl _ _) _) _⟩
section
variable {a b c d e f : Int} {w W : World}
theorem H2.c00 (J : H2 a b c d e f w W) : W.cell? ⟨w.heap.size, 0, none⟩ = some (.int .i64 a) := (blk_cell J.b0 0).trans rfl
theorem H2.c01 (J : H2 a b c d e f w W) : W.cell? ⟨w.heap.size, 1, none⟩ = some (.int .i64 b) := (blk_cell J.b0 1).trans rfl
theorem H2.c02 (J : H2 a b c d e f w W) : W.cell? ⟨w.heap.size, 2, none⟩ = some (.int .i64 c) := (blk_cell J.b0 2).trans rfl
theorem H2.c10 (J : H2 a b c d e f w W) : W.cell? ⟨w.heap.size + 1, 0, none⟩ = some (.int .i64 d) := (blk_cell J.b1 0).trans rfl
theorem H2.c11 (J : H2 a b c d e f w W) : W.cell? ⟨w.heap.size + 1, 1, none⟩ = some (.int .i64 e) := (blk_cell J.b1 1).trans rfl
theorem H2.c12 (J : H2 a b c d e f w W) : W.cell? ⟨w.heap.size + 1, 2, none⟩ = some (.int .i64 f) := (blk_cell J.b1 2).trans rfl
end

theorem at_eq (a b c y x z n : Int) (ok : Bool) (h : atR a b c y x z = (n, ok)) (w : World) : Calls Try.prog 16 #[.agg #[.int .i64 a, .int .i64 b, .int .i64 c], .int .i64 y, .int .i64 x, .int .i64 z] w fun e w' => e = .returned (.tuple #[.int .i64 n, .bool ok]) ∧ Below w.heap.size w w' := by
  have := at_any a b c y x z w
  rwa [h] at this
theorem rat_eq (a b c y x z n : Int) (h : ratR a b c y x z = n) (w : World) : Calls Try.prog 17 #[.agg #[.int .i64 a, .int .i64 b, .int .i64 c], .int .i64 y, .int .i64 x, .int .i64 z] w fun e w' => e = .returned (.int .i64 n) ∧ Below w.heap.size w w' := by
  have := rat_any a b c y x z w
  rwa [h] at this
theorem of_eq (a b c i p q r : Int) (ok : Bool) (h : ofR a b c i = (p, q, r, ok)) (w : World) : Calls Try.prog 18 #[.agg #[.int .i64 a, .int .i64 b, .int .i64 c], .int .i64 i] w fun e w' => e = .returned (.tuple #[.agg #[.int .i64 p, .int .i64 q, .int .i64 r], .bool ok]) ∧ Below w.heap.size w w' := by
  have := of_any a b c i w
  rwa [h] at this
theorem rsize_eq (a b c n : Int) (h : sizeR a b c = n) (w : World) : Calls Try.prog 14 #[.agg #[.int .i64 a, .int .i64 b, .int .i64 c]] w fun e w' => e = .returned (.int .i64 n) ∧ Below w.heap.size w w' := by
  subst h
  exact rsize_is a b c w

/-! ### the plain laws -/
theorem at_in (a b c y x z : Int) (k0 : 0 ≤ y ∧ y < a) (k1 : 0 ≤ x ∧ x < b) (k2 : 0 ≤ z ∧ z < c) : ((y * b + x) * c + z) / c = y * b + x ∧ ((y * b + x) * c + z) % c = z ∧ (y * b + x) / b = y ∧ (y * b + x) % b = x ∧ 0 ≤ (y * b + x) * c + z ∧ (y * b + x) * c + z < a * b * c := by
  have e1 : ((y * b + x) * c + z) / c = y * b + x := by
    rw [Int.add_comm, Int.add_mul_ediv_right _ _ (by omega), Int.ediv_eq_zero_of_lt k2.1 k2.2, Int.zero_add]
  have e2 : ((y * b + x) * c + z) % c = z := by
    rw [Int.add_comm, Int.add_mul_emod_self_right, Int.emod_eq_of_lt k2.1 k2.2]
  have e3 : (y * b + x) / b = y := by
    rw [Int.add_comm, Int.add_mul_ediv_right _ _ (by omega), Int.ediv_eq_zero_of_lt k1.1 k1.2, Int.zero_add]
  have e4 : (y * b + x) % b = x := by
    rw [Int.add_comm, Int.add_mul_emod_self_right, Int.emod_eq_of_lt k1.1 k1.2]
  have u0 : 0 ≤ y * b := Int.mul_nonneg k0.1 (by omega)
  have u1 : (y + 1) * b ≤ a * b := Int.mul_le_mul_of_nonneg_right (by omega) (by omega)
  rw [Int.add_mul, Int.one_mul] at u1
  have u2 : 0 ≤ (y * b + x) * c := Int.mul_nonneg (by omega) (by omega)
  have u3 : (y * b + x + 1) * c ≤ a * b * c := Int.mul_le_mul_of_nonneg_right (by omega) (by omega)
  rw [Int.add_mul, Int.one_mul] at u3
  exact ⟨e1, e2, e3, e4, by omega, by omega⟩

theorem of_at (a b c y x z n : Int) (h : atR a b c y x z = (n, true)) : ofR a b c n = (y, x, z, true) ∧ ratR a b c y x z = n ∧ 0 ≤ n := by
  have hr : ratR a b c y x z = n := by unfold ratR; rw [h, if_pos rfl]
  unfold atR at h
  by_cases k : sizeR a b c ≠ 0 ∧ (0 ≤ y ∧ y < a) ∧ (0 ≤ x ∧ x < b) ∧ (0 ≤ z ∧ z < c)
  · rw [if_pos k] at h
    obtain ⟨h0, k0, k1, k2⟩ := k
    obtain ⟨_, _, _, _, hs⟩ := size_nz a b c h0
    obtain ⟨e1, e2, e3, e4, e5, e6⟩ := at_in a b c y x z k0 k1 k2
    injection h with hn _
    subst hn
    refine ⟨?_, hr, e5⟩
    unfold ofR
    rw [if_pos ⟨e5, by rw [hs]; exact e6⟩, e1, e2, e3, e4]
  · rw [if_neg k] at h
    cases h

theorem rat_no (a b c y x z n : Int) (h : atR a b c y x z = (n, false)) : n = 0 ∧ ratR a b c y x z = -1 := by
  have hr : ratR a b c y x z = -1 := by unfold ratR; rw [h, if_neg (show ¬ (false = true) by decide)]
  unfold atR at h
  by_cases k : sizeR a b c ≠ 0 ∧ (0 ≤ y ∧ y < a) ∧ (0 ≤ x ∧ x < b) ∧ (0 ≤ z ∧ z < c)
  · rw [if_pos k] at h; cases h
  · rw [if_neg k] at h; cases h; exact ⟨rfl, hr⟩

theorem at_of (a b c i : Int) (h0 : 0 ≤ i) (h1 : i < sizeR a b c) : ratR a b c (i / c / b) (i / c % b) (i % c) = i ∧ ofR a b c i = (i / c / b, i / c % b, i % c, true) := by
  refine ⟨?_, by unfold ofR; rw [if_pos ⟨h0, h1⟩]⟩
  obtain ⟨⟨a0, a1⟩, ⟨b0, b1⟩, ⟨c0, c1⟩, hl, hs⟩ := size_nz a b c (by omega)
  have z0 : 0 ≤ i % c ∧ i % c < c := ⟨Int.emod_nonneg _ (by omega), Int.emod_lt_of_pos _ (by omega)⟩
  have x0 : 0 ≤ i / c % b ∧ i / c % b < b := ⟨Int.emod_nonneg _ (by omega), Int.emod_lt_of_pos _ (by omega)⟩
  have q0 : 0 ≤ i / c := Int.ediv_nonneg h0 (by omega)
  have y0 : 0 ≤ i / c / b := Int.ediv_nonneg q0 (by omega)
  have y1 : i / c / b < a := by
    refine Int.ediv_lt_of_lt_mul (by omega) (Int.ediv_lt_of_lt_mul (by omega) ?_)
    rw [← hs]; exact h1
  have e1 : i / c / b * b + i / c % b = i / c := by rw [Int.mul_comm]; exact Int.mul_ediv_add_emod _ _
  have e2 : i / c * c + i % c = i := by rw [Int.mul_comm]; exact Int.mul_ediv_add_emod _ _
  have e0 : atR a b c (i / c / b) (i / c % b) (i % c) = ((i / c / b * b + i / c % b) * c + i % c, true) := by unfold atR; rw [if_pos ⟨by omega, ⟨y0, y1⟩, x0, z0⟩]
  unfold ratR
  rw [e0, if_pos rfl]
  show (i / c / b * b + i / c % b) * c + i % c = i
  rw [e1, e2]

set_option maxHeartbeats 4000000 in
theorem at_law_no (a b c y x z : Int) (w : World) (h : atR a b c y x z = (0, false)) (hr : ratR a b c y x z = -1) : Calls Try.prog 4 #[.agg #[.int .i64 a, .int .i64 b, .int .i64 c], .agg #[.int .i64 y, .int .i64 x, .int .i64 z]] w fun e w' => e = .returned (.bool true) ∧ Below w.heap.size w w' := by
  have J := H2.start a b c y x z w
  go_enter Try.func4, Try.ntmps4
  go_wp2_with (first | (go_at_call 16; refine (at_eq a b c y x z 0 false h _).mono ?_; rintro e w' ⟨rfl, hb⟩; have J2 := J.step hb; clear J hb; have J := J2; clear J2; have c00 := J.c00; have c01 := J.c01; have c02 := J.c02; have c10 := J.c10; have c11 := J.c11; have c12 := J.c12) | (go_at_call 17; refine (rat_eq a b c y x z (-1) hr _).mono ?_; rintro e w' ⟨rfl, hb⟩; have J2 := J.step hb; clear J hb; have J := J2; clear J2) | (go_at_call 15; refine (lives_is _).mono ?_; rintro e w' ⟨rfl, hb⟩; have J2 := J.step hb; clear J hb; have J := J2; clear J2))
  go_ret
  exact ⟨rfl, J.bel⟩

set_option maxHeartbeats 4000000 in
theorem at_law_yes (a b c y x z n : Int) (w : World) (h : atR a b c y x z = (n, true)) (hr : ratR a b c y x z = n) (ho : ofR a b c n = (y, x, z, true)) (h0 : 0 ≤ n) : Calls Try.prog 4 #[.agg #[.int .i64 a, .int .i64 b, .int .i64 c], .agg #[.int .i64 y, .int .i64 x, .int .i64 z]] w fun e w' => e = .returned (.bool true) ∧ Below w.heap.size w w' := by
  have J := H2.start a b c y x z w
  have hn : decide (n < 0) = false := decide_eq_false (by omega)
  have EQ := eq3 y x z y x z
  rw [beq_self_eq_true, beq_self_eq_true, beq_self_eq_true] at EQ
  go_enter Try.func4, Try.ntmps4
  go_wp2_with (first | (go_at_call 16; refine (at_eq a b c y x z n true h _).mono ?_; rintro e w' ⟨rfl, hb⟩; have J2 := J.step hb; clear J hb; have J := J2; clear J2; have c00 := J.c00; have c01 := J.c01; have c02 := J.c02; have c10 := J.c10; have c11 := J.c11; have c12 := J.c12) | (go_at_call 17; refine (rat_eq a b c y x z n hr _).mono ?_; rintro e w' ⟨rfl, hb⟩; have J2 := J.step hb; clear J hb; have J := J2; clear J2; have c00 := J.c00; have c01 := J.c01; have c02 := J.c02; have c10 := J.c10; have c11 := J.c11; have c12 := J.c12) | (go_at_call 18; refine (of_eq a b c n y x z true ho _).mono ?_; rintro e w' ⟨rfl, hb⟩; have J2 := J.step hb; clear J hb; have J := J2; clear J2; have c00 := J.c00; have c01 := J.c01; have c02 := J.c02; have c10 := J.c10; have c11 := J.c11; have c12 := J.c12; have l1 : w.heap.size + 1 < w'.heap.size := blk_lt J.b1; have l0 : w.heap.size < w'.heap.size := blk_lt J.b0; have n1 : ¬ (w.heap.size + 1 = w'.heap.size) := Nat.ne_of_lt (blk_lt J.b1); have n2 : ¬ (w'.heap.size = w.heap.size + 1) := Nat.ne_of_gt (blk_lt J.b1); have n3 : ¬ (w.heap.size = w'.heap.size) := Nat.ne_of_lt (blk_lt J.b0); have n4 : ¬ (w'.heap.size = w.heap.size) := Nat.ne_of_gt (blk_lt J.b0)) | (go_at_call 15; refine (lives_is _).mono ?_; rintro e w2 ⟨rfl, hb⟩; have HL := Lib.hid hb; clear hb))
  go_ret
  exact ⟨rfl, below_step (J.alloc _).bel HL.out⟩

theorem at_law (a b c y x z : Int) (w : World) : Calls Try.prog 4 #[.agg #[.int .i64 a, .int .i64 b, .int .i64 c], .agg #[.int .i64 y, .int .i64 x, .int .i64 z]] w fun e w' => e = .returned (.bool true) ∧ Below w.heap.size w w' := by
  rcases h : atR a b c y x z with ⟨n, ok⟩
  cases ok with
  | false =>
    obtain ⟨rfl, hr⟩ := rat_no a b c y x z n h
    exact at_law_no a b c y x z w h hr
  | true =>
    obtain ⟨ho, hr, h0⟩ := of_at a b c y x z n h
    exact at_law_yes a b c y x z n w h hr ho h0

end Go.Proofs.Ytfcimgdogkpbcaa.T1
