/- The law TensorOf, walked; for every shape and number. No condition beyond those in its statements. -/
import Derived.Test.YtfcimgdogkpbcaaT8
namespace Go.Proofs.Ytfcimgdogkpbcaa.T1
open Go.RowKit
set_option linter.unusedVariables false
set_option maxRecDepth 100000

/-- A shape's box, and one made later. -/
structure Hq (a b c p q r : Int) (w : World) (g : Nat) (W : World) : Prop where
  b0 : W.heap[w.heap.size]? = some (box3 a b c)
  b1 : W.heap[g]? = some (box3 p q r)
  bel : Below w.heap.size w W
theorem Hq.step {a b c p q r : Int} {w W W' : World} {g : Nat} (J : Hq a b c p q r w g W) (hb : Below W.heap.size W W') : Hq a b c p q r w g W' := ⟨blk_below J.b0 hb, blk_below J.b1 hb, below_step J.bel hb⟩
theorem Hq.start {a b c : Int} {w W : World} (J : Hs a b c w W) (p q r : Int) : Hq a b c p q r w W.heap.size (W.alloc (box3 p q r)) := ⟨blk_alloc J.b0 _, blk_new W _, below_alloc J.bel _⟩
section
variable {a b c p q r : Int} {w W : World} {g : Nat}
theorem Hq.c00 (J : Hq a b c p q r w g W) : W.cell? ⟨w.heap.size, 0, none⟩ = some (.int .i64 a) := (blk_cell J.b0 0).trans rfl
theorem Hq.c01 (J : Hq a b c p q r w g W) : W.cell? ⟨w.heap.size, 1, none⟩ = some (.int .i64 b) := (blk_cell J.b0 1).trans rfl
theorem Hq.c02 (J : Hq a b c p q r w g W) : W.cell? ⟨w.heap.size, 2, none⟩ = some (.int .i64 c) := (blk_cell J.b0 2).trans rfl
theorem Hq.c10 (J : Hq a b c p q r w g W) : W.cell? ⟨g, 0, none⟩ = some (.int .i64 p) := (blk_cell J.b1 0).trans rfl
theorem Hq.c11 (J : Hq a b c p q r w g W) : W.cell? ⟨g, 1, none⟩ = some (.int .i64 q) := (blk_cell J.b1 1).trans rfl
theorem Hq.c12 (J : Hq a b c p q r w g W) : W.cell? ⟨g, 2, none⟩ = some (.int .i64 r) := (blk_cell J.b1 2).trans rfl
end

set_option maxHeartbeats 4000000 in
theorem of_law_neg (a b c i : Int) (w : World) (h : ofR a b c i = (0, 0, 0, false)) (h0 : i < 0) : Calls Try.prog 5 #[.agg #[.int .i64 a, .int .i64 b, .int .i64 c], .int .i64 i] w fun e w' => e = .returned (.bool true) ∧ Below w.heap.size w w' := by
  have J := Hs.start a b c w
  have g0 : decide (i < 0) = true := decide_eq_true h0
  have EQ := eq3 0 0 0 0 0 0
  rw [beq_self_eq_true] at EQ
  go_enter Try.func5, Try.ntmps5
  go_wp2_with (first | (go_at_call 18; refine (of_eq a b c i 0 0 0 false h _).mono ?_; rintro e w1 ⟨rfl, hb⟩; have J2 := J.step hb; clear J hb; have J := J2; clear J2; have K := Hq.start J 0 0 0; have l0 : w.heap.size < w1.heap.size := blk_lt J.b0; have c00 := J.c0; have c01 := J.c1; have c02 := J.c2) | (go_at_call 15; refine (lives_is _).mono ?_; rintro e w2 ⟨rfl, hb⟩; have K2 := K.step hb; clear K hb; have K := K2; clear K2))
  go_ret
  exact ⟨rfl, K.bel⟩

set_option maxHeartbeats 4000000 in
theorem of_law_big (a b c i n : Int) (w : World) (h : ofR a b c i = (0, 0, 0, false)) (h0 : 0 ≤ i) (hn : sizeR a b c = n) (h1 : n ≤ i) : Calls Try.prog 5 #[.agg #[.int .i64 a, .int .i64 b, .int .i64 c], .int .i64 i] w fun e w' => e = .returned (.bool true) ∧ Below w.heap.size w w' := by
  have J := Hs.start a b c w
  have g0 : decide (i < 0) = false := decide_eq_false (by omega)
  have g1 : decide (n ≤ i) = true := decide_eq_true h1
  have EQ := eq3 0 0 0 0 0 0
  rw [beq_self_eq_true] at EQ
  go_enter Try.func5, Try.ntmps5
  go_wp2_with (first | (go_at_call 18; refine (of_eq a b c i 0 0 0 false h _).mono ?_; rintro e w1 ⟨rfl, hb⟩; have J2 := J.step hb; clear J hb; have J := J2; clear J2; have K := Hq.start J 0 0 0; have l0 : w.heap.size < w1.heap.size := blk_lt J.b0; have c00 := J.c0; have c01 := J.c1; have c02 := J.c2) | (go_at_call 14; refine (rsize_eq a b c n hn _).mono ?_; rintro e w2 ⟨rfl, hb⟩; have K2 := K.step hb; clear K hb; have K := K2; clear K2; have d00w2 := K.c00; have d01w2 := K.c01; have d02w2 := K.c02; have d10w2 := K.c10; have d11w2 := K.c11; have d12w2 := K.c12) | (go_at_call 15; refine (lives_is _).mono ?_; rintro e w3 ⟨rfl, hb⟩; have K2 := K.step hb; clear K hb; have K := K2; clear K2))
  go_ret
  exact ⟨rfl, K.bel⟩

set_option maxHeartbeats 4000000 in
theorem of_law_in (a b c i n p q r : Int) (w : World) (h : ofR a b c i = (p, q, r, true)) (hr : ratR a b c p q r = i) (h0 : 0 ≤ i) (hn : sizeR a b c = n) (h1 : i < n) : Calls Try.prog 5 #[.agg #[.int .i64 a, .int .i64 b, .int .i64 c], .int .i64 i] w fun e w' => e = .returned (.bool true) ∧ Below w.heap.size w w' := by
  have J := Hs.start a b c w
  have g0 : decide (i < 0) = false := decide_eq_false (by omega)
  have g1 : decide (n ≤ i) = false := decide_eq_false (by omega)
  go_enter Try.func5, Try.ntmps5
  go_wp2_with (first | (go_at_call 18; refine (of_eq a b c i p q r true h _).mono ?_; rintro e w1 ⟨rfl, hb⟩; have J2 := J.step hb; clear J hb; have J := J2; clear J2; have K := Hq.start J p q r; have l0 : w.heap.size < w1.heap.size := blk_lt J.b0; have c00 := J.c0; have c01 := J.c1; have c02 := J.c2) | (go_at_call 14; refine (rsize_eq a b c n hn _).mono ?_; rintro e w2 ⟨rfl, hb⟩; have K2 := K.step hb; clear K hb; have K := K2; clear K2; have d00w2 := K.c00; have d01w2 := K.c01; have d02w2 := K.c02; have d10w2 := K.c10; have d11w2 := K.c11; have d12w2 := K.c12) | (go_at_call 17; refine (rat_eq a b c p q r i hr _).mono ?_; rintro e w3 ⟨rfl, hb⟩; have K2 := K.step hb; clear K hb; have K := K2; clear K2) | (go_at_call 15; refine (lives_is _).mono ?_; rintro e w4 ⟨rfl, hb⟩; have K2 := K.step hb; clear K hb; have K := K2; clear K2))
  go_ret
  exact ⟨rfl, K.bel⟩

theorem of_law (a b c i : Int) (w : World) : Calls Try.prog 5 #[.agg #[.int .i64 a, .int .i64 b, .int .i64 c], .int .i64 i] w fun e w' => e = .returned (.bool true) ∧ Below w.heap.size w w' := by
  by_cases h0 : 0 ≤ i
  · by_cases h1 : i < sizeR a b c
    · obtain ⟨e1, e2⟩ := at_of a b c i h0 h1
      exact of_law_in a b c i _ _ _ _ w e2 e1 h0 rfl h1
    · have e : ofR a b c i = (0, 0, 0, false) := by unfold ofR; rw [if_neg (fun k => h1 k.2)]
      exact of_law_big a b c i _ w e h0 rfl (by omega)
  · have e : ofR a b c i = (0, 0, 0, false) := by unfold ofR; rw [if_neg (fun k => h0 k.1)]
    exact of_law_neg a b c i w e (by omega)

end Go.Proofs.Ytfcimgdogkpbcaa.T1
