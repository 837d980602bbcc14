/- The law TensorJoins, walked; for every two shapes. No condition beyond those in its statements. -/
import Derived.Test.YtfcimgdogkpbcaaT5
import Derived.Test.YtfcimgdogkpbcaaT9
namespace Go.Proofs.Ytfcimgdogkpbcaa.T1
open Go.RowKit
set_option linter.unusedVariables false
set_option maxRecDepth 100000

/-- The shape of two. -/
def joinR (a b c d e f s : Int) : Int × Int × Int × Bool := if sizeR a b c ≠ 0 ∧ sizeR d e f ≠ 0 ∧ a = d ∧ b = e ∧ sizeR a b s ≠ 0 then (a, b, s, true) else (0, 0, 0, false)

theorem join_any (a b c d e f s : Int) (w : World) (hs : IntKind.i64.wrap (c + f) = s) : Calls Try.prog 19 #[.agg #[.int .i64 a, .int .i64 b, .int .i64 c], .agg #[.int .i64 d, .int .i64 e, .int .i64 f]] w fun e' w' => e' = .returned (.tuple #[.agg #[.int .i64 (joinR a b c d e f s).1, .int .i64 (joinR a b c d e f s).2.1, .int .i64 (joinR a b c d e f s).2.2.1], .bool (joinR a b c d e f s).2.2.2]) ∧ Below w.heap.size w w' := by
  have no : ¬ (sizeR a b c ≠ 0 ∧ sizeR d e f ≠ 0 ∧ a = d ∧ b = e ∧ sizeR a b s ≠ 0) → joinR a b c d e f s = (0, 0, 0, false) := fun h => by unfold joinR; rw [if_neg h]
  by_cases h1 : sizeR a b c = 0
  · rw [no (fun k => k.1 h1)]
    exact join_1 a b c d e f s w hs h1
  have k1 : (sizeR a b c == 0) = false := beq_eq_false_iff_ne.mpr h1
  by_cases h2 : sizeR d e f = 0
  · rw [no (fun k => k.2.1 h2)]
    exact join_2 a b c d e f s w hs _ rfl k1 h2
  have k2 : (sizeR d e f == 0) = false := beq_eq_false_iff_ne.mpr h2
  by_cases h3 : a = d
  rotate_left
  · rw [no (fun k => h3 k.2.2.1)]
    exact join_3 a b c d e f s w hs _ rfl k1 _ rfl k2 (bne_iff_ne.mpr h3) (beq_eq_false_iff_ne.mpr h3)
  have k3 : (a != d) = false := by rw [h3]; exact bne_self_eq_false d
  have k3' : (a == d) = true := beq_iff_eq.mpr h3
  by_cases h4 : b = e
  rotate_left
  · rw [no (fun k => h4 k.2.2.2.1)]
    exact join_4 a b c d e f s w hs _ rfl k1 _ rfl k2 k3 k3' (bne_iff_ne.mpr h4) (beq_eq_false_iff_ne.mpr h4)
  have k4 : (b != e) = false := by rw [h4]; exact bne_self_eq_false e
  have k4' : (b == e) = true := beq_iff_eq.mpr h4
  by_cases h5 : sizeR a b s = 0
  · rw [no (fun k => k.2.2.2.2 h5)]
    exact join_5 a b c d e f s w hs _ rfl k1 _ rfl k2 h5 k3 k3' k4 k4'
  have k5 : (sizeR a b s == 0) = false := beq_eq_false_iff_ne.mpr h5
  have y : joinR a b c d e f s = (a, b, s, true) := by unfold joinR; rw [if_pos ⟨h1, h2, h3, h4, h5⟩]
  rw [y]
  exact join_6 a b c d e f s w hs _ rfl k1 _ rfl k2 _ rfl k5 k3 k3' k4 k4'

theorem join_eq (a b c d e f s p q r : Int) (ok : Bool) (hs : IntKind.i64.wrap (c + f) = s) (h : joinR a b c d e f s = (p, q, r, ok)) (w : World) : Calls Try.prog 19 #[.agg #[.int .i64 a, .int .i64 b, .int .i64 c], .agg #[.int .i64 d, .int .i64 e, .int .i64 f]] w fun e' w' => e' = .returned (.tuple #[.agg #[.int .i64 p, .int .i64 q, .int .i64 r], .bool ok]) ∧ Below w.heap.size w w' := by
  have := join_any a b c d e f s w hs
  rwa [h] at this

/-- Two shapes' boxes, and two made later, one behind the other. -/
structure Hj (a b c d e f p q r x y z : Int) (w : World) (g : Nat) (W : World) : Prop where
  b0 : W.heap[w.heap.size]? = some (box3 a b c)
  b1 : W.heap[w.heap.size + 1]? = some (box3 d e f)
  b2 : W.heap[g]? = some (box3 p q r)
  b3 : W.heap[g + 1]? = some (box3 x y z)
  gl : w.heap.size + 1 < g
  bel : Below w.heap.size w W
theorem Hj.step {a b c d e f p q r x y z : Int} {w W W' : World} {g : Nat} (J : Hj a b c d e f p q r x y z w g W) (hb : Below W.heap.size W W') : Hj a b c d e f p q r x y z w g W' :=
  ⟨blk_below J.b0 hb, blk_below J.b1 hb, blk_below J.b2 hb, blk_below J.b3 hb, J.gl, below_step J.bel hb⟩
theorem Hj.start {a b c d e f : Int} {w W : World} (J : H2 a b c d e f w W) (p q r x y z : Int) : Hj a b c d e f p q r x y z w W.heap.size ((W.alloc (box3 p q r)).alloc (box3 x y z)) :=
  ⟨blk_alloc (blk_alloc J.b0 _) _, blk_alloc (blk_alloc J.b1 _) _, blk_alloc (blk_new W _) _, blk_new2 W _ _, blk_lt J.b1, below_alloc (below_alloc J.bel _) _⟩
theorem Hj.put {a b c d e f p q r x y z u : Int} {w W : World} {g : Nat} (J : Hj a b c d e f p q r x y z w g W) (i : Nat) (v : Value) {x' y' z' : Int} (hx : (#[.int .i64 x, .int .i64 y, .int .i64 z] : Array Value).setIfInBounds i v = #[.int .i64 x', .int .i64 y', .int .i64 z']) : Hj a b c d e f p q r x' y' z' w g (W.setCell ⟨g + 1, i, none⟩ v) :=
  ⟨blk_far J.b0 (show w.heap.size ≠ g + 1 by have := J.gl; omega) v, blk_far J.b1 (show w.heap.size + 1 ≠ g + 1 by have := J.gl; omega) v, blk_far J.b2 (show g ≠ g + 1 by omega) v, blk_put J.b3 i v hx, J.gl, below_set J.bel (by have := J.gl; omega)⟩
theorem Hj.puts {a b c d e f p q r x y z : Int} {w W : World} {g : Nat} (J : Hj a b c d e f p q r x y z w g W) (x' y' z' : Int) : Hj a b c d e f p q r x' y' z' w g (((W.setCell ⟨g + 1, 0, none⟩ (.int .i64 x')).setCell ⟨g + 1, 1, none⟩ (.int .i64 y')).setCell ⟨g + 1, 2, none⟩ (.int .i64 z')) :=
  ((J.put (u := 0) 0 (.int .i64 x') rfl).put (u := 0) 1 (.int .i64 y') rfl).put (u := 0) 2 (.int .i64 z') rfl
section
variable {a b c d e f p q r x y z : Int} {w W : World} {g : Nat}
theorem Hj.c00 (J : Hj a b c d e f p q r x y z w g W) : W.cell? ⟨w.heap.size, 0, none⟩ = some (.int .i64 a) := (blk_cell J.b0 0).trans rfl
theorem Hj.c01 (J : Hj a b c d e f p q r x y z w g W) : W.cell? ⟨w.heap.size, 1, none⟩ = some (.int .i64 b) := (blk_cell J.b0 1).trans rfl
theorem Hj.c02 (J : Hj a b c d e f p q r x y z w g W) : W.cell? ⟨w.heap.size, 2, none⟩ = some (.int .i64 c) := (blk_cell J.b0 2).trans rfl
theorem Hj.c10 (J : Hj a b c d e f p q r x y z w g W) : W.cell? ⟨w.heap.size + 1, 0, none⟩ = some (.int .i64 d) := (blk_cell J.b1 0).trans rfl
theorem Hj.c11 (J : Hj a b c d e f p q r x y z w g W) : W.cell? ⟨w.heap.size + 1, 1, none⟩ = some (.int .i64 e) := (blk_cell J.b1 1).trans rfl
theorem Hj.c12 (J : Hj a b c d e f p q r x y z w g W) : W.cell? ⟨w.heap.size + 1, 2, none⟩ = some (.int .i64 f) := (blk_cell J.b1 2).trans rfl
theorem Hj.c20 (J : Hj a b c d e f p q r x y z w g W) : W.cell? ⟨g, 0, none⟩ = some (.int .i64 p) := (blk_cell J.b2 0).trans rfl
theorem Hj.c21 (J : Hj a b c d e f p q r x y z w g W) : W.cell? ⟨g, 1, none⟩ = some (.int .i64 q) := (blk_cell J.b2 1).trans rfl
theorem Hj.c22 (J : Hj a b c d e f p q r x y z w g W) : W.cell? ⟨g, 2, none⟩ = some (.int .i64 r) := (blk_cell J.b2 2).trans rfl
theorem Hj.c30 (J : Hj a b c d e f p q r x y z w g W) : W.cell? ⟨g + 1, 0, none⟩ = some (.int .i64 x) := (blk_cell J.b3 0).trans rfl
theorem Hj.f30 (J : Hj a b c d e f p q r x y z w g W) : W.frozen? ⟨g + 1, 0, none⟩ = false := blk_frozen J.b3 0
theorem Hj.c31 (J : Hj a b c d e f p q r x y z w g W) : W.cell? ⟨g + 1, 1, none⟩ = some (.int .i64 y) := (blk_cell J.b3 1).trans rfl
theorem Hj.f31 (J : Hj a b c d e f p q r x y z w g W) : W.frozen? ⟨g + 1, 1, none⟩ = false := blk_frozen J.b3 1
theorem Hj.c32 (J : Hj a b c d e f p q r x y z w g W) : W.cell? ⟨g + 1, 2, none⟩ = some (.int .i64 z) := (blk_cell J.b3 2).trans rfl
theorem Hj.f32 (J : Hj a b c d e f p q r x y z w g W) : W.frozen? ⟨g + 1, 2, none⟩ = false := blk_frozen J.b3 2
end

set_option maxHeartbeats 8000000 in
theorem jl_1 (a b c d e f s : Int) (w : World) (hs : IntKind.i64.wrap (c + f) = s) (hj : joinR a b c d e f s = (0, 0, 0, false)) (hA : decide (0 < sizeR a b c) = false) (hZ : decide (0 < sizeR 0 0 0) = false) : Calls Try.prog 6 #[.agg #[.int .i64 a, .int .i64 b, .int .i64 c], .agg #[.int .i64 d, .int .i64 e, .int .i64 f]] w fun e w' => e = .returned (.bool true) ∧ Below w.heap.size w w' := by
  have J := H2.start a b c d e f w
  have EQ := eq3 0 0 0 0 0 0
  rw [beq_self_eq_true] at EQ
  go_enter Try.func6, Try.ntmps6
  go_wp2_with (first | (go_at_call 19; refine (join_eq a b c d e f s 0 0 0 false hs hj _).mono ?_; rintro e w1 ⟨rfl, hb⟩; have J2 := J.step hb; clear J hb; have J := J2; clear J2; have K := Hj.start J 0 0 0 0 0 0; have l0 : w.heap.size < w1.heap.size := blk_lt J.b0; have l1 : w.heap.size + 1 < w1.heap.size := blk_lt J.b1; have l2 : w.heap.size < w1.heap.size + 1 := Nat.lt_succ_of_lt (blk_lt J.b0); have l3 : w.heap.size + 1 < w1.heap.size + 1 := Nat.lt_succ_of_lt (blk_lt J.b1); have ac00 := J.c00; have ac01 := J.c01; have ac02 := J.c02; have ac10 := J.c10; have ac11 := J.c11; have ac12 := J.c12; have kc00 := K.c00; have kc01 := K.c01; have kc02 := K.c02; have kc10 := K.c10; have kc11 := K.c11; have kc12 := K.c12; have kc20 := K.c20; have kc21 := K.c21; have kc22 := K.c22; have kc30 := K.c30; have kc31 := K.c31; have kc32 := K.c32; have kf30 := K.f30; have kf31 := K.f31; have kf32 := K.f32) | (go_at_call_of 12 (Value.int .i64 c); refine (rgood_eq a b c false hA _).mono ?_; rintro e w2 ⟨rfl, hb⟩; have K2 := K.step hb; clear K hb; have K := K2; clear K2; have c00w2 := K.c00; have c01w2 := K.c01; have c02w2 := K.c02; have c10w2 := K.c10; have c11w2 := K.c11; have c12w2 := K.c12; have c20w2 := K.c20; have c21w2 := K.c21; have c22w2 := K.c22; have c30w2 := K.c30; have c31w2 := K.c31; have c32w2 := K.c32; have f30w2 := K.f30; have f31w2 := K.f31; have f32w2 := K.f32) | (go_at_call_of 12 (Value.int .i64 0); refine (rgood_eq 0 0 0 false hZ _).mono ?_; rintro e w4 ⟨rfl, hb⟩; have K2 := K.step hb; clear K hb; have K := K2; clear K2; have c00w4 := K.c00; have c01w4 := K.c01; have c02w4 := K.c02; have c10w4 := K.c10; have c11w4 := K.c11; have c12w4 := K.c12; have c20w4 := K.c20; have c21w4 := K.c21; have c22w4 := K.c22; have c30w4 := K.c30; have c31w4 := K.c31; have c32w4 := K.c32; have f30w4 := K.f30; have f31w4 := K.f31; have f32w4 := K.f32) | (go_at_call 15; refine (lives_is _).mono ?_; rintro e w5 ⟨rfl, hb⟩; have K2 := K.step hb; clear K hb; have K := K2; clear K2))
  go_ret
  exact ⟨rfl, K.bel⟩

set_option maxHeartbeats 8000000 in
theorem jl_2 (a b c d e f s : Int) (w : World) (hs : IntKind.i64.wrap (c + f) = s) (hj : joinR a b c d e f s = (0, 0, 0, false)) (hA : decide (0 < sizeR a b c) = true) (hB : decide (0 < sizeR d e f) = false) (hZ : decide (0 < sizeR 0 0 0) = false) : Calls Try.prog 6 #[.agg #[.int .i64 a, .int .i64 b, .int .i64 c], .agg #[.int .i64 d, .int .i64 e, .int .i64 f]] w fun e w' => e = .returned (.bool true) ∧ Below w.heap.size w w' := by
  have J := H2.start a b c d e f w
  have EQ := eq3 0 0 0 0 0 0
  rw [beq_self_eq_true] at EQ
  go_enter Try.func6, Try.ntmps6
  go_wp2_with (first | (go_at_call 19; refine (join_eq a b c d e f s 0 0 0 false hs hj _).mono ?_; rintro e w1 ⟨rfl, hb⟩; have J2 := J.step hb; clear J hb; have J := J2; clear J2; have K := Hj.start J 0 0 0 0 0 0; have l0 : w.heap.size < w1.heap.size := blk_lt J.b0; have l1 : w.heap.size + 1 < w1.heap.size := blk_lt J.b1; have l2 : w.heap.size < w1.heap.size + 1 := Nat.lt_succ_of_lt (blk_lt J.b0); have l3 : w.heap.size + 1 < w1.heap.size + 1 := Nat.lt_succ_of_lt (blk_lt J.b1); have ac00 := J.c00; have ac01 := J.c01; have ac02 := J.c02; have ac10 := J.c10; have ac11 := J.c11; have ac12 := J.c12; have kc00 := K.c00; have kc01 := K.c01; have kc02 := K.c02; have kc10 := K.c10; have kc11 := K.c11; have kc12 := K.c12; have kc20 := K.c20; have kc21 := K.c21; have kc22 := K.c22; have kc30 := K.c30; have kc31 := K.c31; have kc32 := K.c32; have kf30 := K.f30; have kf31 := K.f31; have kf32 := K.f32) | (go_at_call_of 12 (Value.int .i64 c); refine (rgood_eq a b c true hA _).mono ?_; rintro e w2 ⟨rfl, hb⟩; have K2 := K.step hb; clear K hb; have K := K2; clear K2; have c00w2 := K.c00; have c01w2 := K.c01; have c02w2 := K.c02; have c10w2 := K.c10; have c11w2 := K.c11; have c12w2 := K.c12; have c20w2 := K.c20; have c21w2 := K.c21; have c22w2 := K.c22; have c30w2 := K.c30; have c31w2 := K.c31; have c32w2 := K.c32; have f30w2 := K.f30; have f31w2 := K.f31; have f32w2 := K.f32) | (go_at_call_of 12 (Value.int .i64 f); refine (rgood_eq d e f false hB _).mono ?_; rintro e w3 ⟨rfl, hb⟩; have K2 := K.step hb; clear K hb; have K := K2; clear K2; have c00w3 := K.c00; have c01w3 := K.c01; have c02w3 := K.c02; have c10w3 := K.c10; have c11w3 := K.c11; have c12w3 := K.c12; have c20w3 := K.c20; have c21w3 := K.c21; have c22w3 := K.c22; have c30w3 := K.c30; have c31w3 := K.c31; have c32w3 := K.c32; have f30w3 := K.f30; have f31w3 := K.f31; have f32w3 := K.f32) | (go_at_call_of 12 (Value.int .i64 0); refine (rgood_eq 0 0 0 false hZ _).mono ?_; rintro e w4 ⟨rfl, hb⟩; have K2 := K.step hb; clear K hb; have K := K2; clear K2; have c00w4 := K.c00; have c01w4 := K.c01; have c02w4 := K.c02; have c10w4 := K.c10; have c11w4 := K.c11; have c12w4 := K.c12; have c20w4 := K.c20; have c21w4 := K.c21; have c22w4 := K.c22; have c30w4 := K.c30; have c31w4 := K.c31; have c32w4 := K.c32; have f30w4 := K.f30; have f31w4 := K.f31; have f32w4 := K.f32) | (go_at_call 15; refine (lives_is _).mono ?_; rintro e w5 ⟨rfl, hb⟩; have K2 := K.step hb; clear K hb; have K := K2; clear K2))
  go_ret
  exact ⟨rfl, K.bel⟩

set_option maxHeartbeats 8000000 in
theorem jl_3 (a b c d e f s : Int) (w : World) (hs : IntKind.i64.wrap (c + f) = s) (hj : joinR a b c d e f s = (0, 0, 0, false)) (hA : decide (0 < sizeR a b c) = true) (hB : decide (0 < sizeR d e f) = true) (hZ : decide (0 < sizeR 0 0 0) = false) (k : (a != d) = true) (k' : (a == d) = false) : Calls Try.prog 6 #[.agg #[.int .i64 a, .int .i64 b, .int .i64 c], .agg #[.int .i64 d, .int .i64 e, .int .i64 f]] w fun e w' => e = .returned (.bool true) ∧ Below w.heap.size w w' := by
  have J := H2.start a b c d e f w
  have EQ := eq3 0 0 0 0 0 0
  rw [beq_self_eq_true] at EQ
  go_enter Try.func6, Try.ntmps6
  go_wp2_with (first | (go_at_call 19; refine (join_eq a b c d e f s 0 0 0 false hs hj _).mono ?_; rintro e w1 ⟨rfl, hb⟩; have J2 := J.step hb; clear J hb; have J := J2; clear J2; have K := Hj.start J 0 0 0 0 0 0; have l0 : w.heap.size < w1.heap.size := blk_lt J.b0; have l1 : w.heap.size + 1 < w1.heap.size := blk_lt J.b1; have l2 : w.heap.size < w1.heap.size + 1 := Nat.lt_succ_of_lt (blk_lt J.b0); have l3 : w.heap.size + 1 < w1.heap.size + 1 := Nat.lt_succ_of_lt (blk_lt J.b1); have ac00 := J.c00; have ac01 := J.c01; have ac02 := J.c02; have ac10 := J.c10; have ac11 := J.c11; have ac12 := J.c12; have kc00 := K.c00; have kc01 := K.c01; have kc02 := K.c02; have kc10 := K.c10; have kc11 := K.c11; have kc12 := K.c12; have kc20 := K.c20; have kc21 := K.c21; have kc22 := K.c22; have kc30 := K.c30; have kc31 := K.c31; have kc32 := K.c32; have kf30 := K.f30; have kf31 := K.f31; have kf32 := K.f32) | (go_at_call_of 12 (Value.int .i64 c); refine (rgood_eq a b c true hA _).mono ?_; rintro e w2 ⟨rfl, hb⟩; have K2 := K.step hb; clear K hb; have K := K2; clear K2; have c00w2 := K.c00; have c01w2 := K.c01; have c02w2 := K.c02; have c10w2 := K.c10; have c11w2 := K.c11; have c12w2 := K.c12; have c20w2 := K.c20; have c21w2 := K.c21; have c22w2 := K.c22; have c30w2 := K.c30; have c31w2 := K.c31; have c32w2 := K.c32; have f30w2 := K.f30; have f31w2 := K.f31; have f32w2 := K.f32) | (go_at_call_of 12 (Value.int .i64 f); refine (rgood_eq d e f true hB _).mono ?_; rintro e w3 ⟨rfl, hb⟩; have K2 := K.step hb; clear K hb; have K := K2; clear K2; have c00w3 := K.c00; have c01w3 := K.c01; have c02w3 := K.c02; have c10w3 := K.c10; have c11w3 := K.c11; have c12w3 := K.c12; have c20w3 := K.c20; have c21w3 := K.c21; have c22w3 := K.c22; have c30w3 := K.c30; have c31w3 := K.c31; have c32w3 := K.c32; have f30w3 := K.f30; have f31w3 := K.f31; have f32w3 := K.f32) | (go_at_call_of 12 (Value.int .i64 0); refine (rgood_eq 0 0 0 false hZ _).mono ?_; rintro e w4 ⟨rfl, hb⟩; have K2 := K.step hb; clear K hb; have K := K2; clear K2; have c00w4 := K.c00; have c01w4 := K.c01; have c02w4 := K.c02; have c10w4 := K.c10; have c11w4 := K.c11; have c12w4 := K.c12; have c20w4 := K.c20; have c21w4 := K.c21; have c22w4 := K.c22; have c30w4 := K.c30; have c31w4 := K.c31; have c32w4 := K.c32; have f30w4 := K.f30; have f31w4 := K.f31; have f32w4 := K.f32) | (go_at_call 15; refine (lives_is _).mono ?_; rintro e w5 ⟨rfl, hb⟩; have K2 := K.step hb; clear K hb; have K := K2; clear K2))
  go_ret
  exact ⟨rfl, K.bel⟩

set_option maxHeartbeats 8000000 in
theorem jl_4 (a b c d e f s : Int) (w : World) (hs : IntKind.i64.wrap (c + f) = s) (hj : joinR a b c d e f s = (0, 0, 0, false)) (hA : decide (0 < sizeR a b c) = true) (hB : decide (0 < sizeR d e f) = true) (hZ : decide (0 < sizeR 0 0 0) = false) (k : (a != d) = false) (k' : (a == d) = true) (l : (b != e) = true) (l' : (b == e) = false) : Calls Try.prog 6 #[.agg #[.int .i64 a, .int .i64 b, .int .i64 c], .agg #[.int .i64 d, .int .i64 e, .int .i64 f]] w fun e w' => e = .returned (.bool true) ∧ Below w.heap.size w w' := by
  have J := H2.start a b c d e f w
  have EQ := eq3 0 0 0 0 0 0
  rw [beq_self_eq_true] at EQ
  go_enter Try.func6, Try.ntmps6
  go_wp2_with (first | (go_at_call 19; refine (join_eq a b c d e f s 0 0 0 false hs hj _).mono ?_; rintro e w1 ⟨rfl, hb⟩; have J2 := J.step hb; clear J hb; have J := J2; clear J2; have K := Hj.start J 0 0 0 0 0 0; have l0 : w.heap.size < w1.heap.size := blk_lt J.b0; have l1 : w.heap.size + 1 < w1.heap.size := blk_lt J.b1; have l2 : w.heap.size < w1.heap.size + 1 := Nat.lt_succ_of_lt (blk_lt J.b0); have l3 : w.heap.size + 1 < w1.heap.size + 1 := Nat.lt_succ_of_lt (blk_lt J.b1); have ac00 := J.c00; have ac01 := J.c01; have ac02 := J.c02; have ac10 := J.c10; have ac11 := J.c11; have ac12 := J.c12; have kc00 := K.c00; have kc01 := K.c01; have kc02 := K.c02; have kc10 := K.c10; have kc11 := K.c11; have kc12 := K.c12; have kc20 := K.c20; have kc21 := K.c21; have kc22 := K.c22; have kc30 := K.c30; have kc31 := K.c31; have kc32 := K.c32; have kf30 := K.f30; have kf31 := K.f31; have kf32 := K.f32) | (go_at_call_of 12 (Value.int .i64 c); refine (rgood_eq a b c true hA _).mono ?_; rintro e w2 ⟨rfl, hb⟩; have K2 := K.step hb; clear K hb; have K := K2; clear K2; have c00w2 := K.c00; have c01w2 := K.c01; have c02w2 := K.c02; have c10w2 := K.c10; have c11w2 := K.c11; have c12w2 := K.c12; have c20w2 := K.c20; have c21w2 := K.c21; have c22w2 := K.c22; have c30w2 := K.c30; have c31w2 := K.c31; have c32w2 := K.c32; have f30w2 := K.f30; have f31w2 := K.f31; have f32w2 := K.f32) | (go_at_call_of 12 (Value.int .i64 f); refine (rgood_eq d e f true hB _).mono ?_; rintro e w3 ⟨rfl, hb⟩; have K2 := K.step hb; clear K hb; have K := K2; clear K2; have c00w3 := K.c00; have c01w3 := K.c01; have c02w3 := K.c02; have c10w3 := K.c10; have c11w3 := K.c11; have c12w3 := K.c12; have c20w3 := K.c20; have c21w3 := K.c21; have c22w3 := K.c22; have c30w3 := K.c30; have c31w3 := K.c31; have c32w3 := K.c32; have f30w3 := K.f30; have f31w3 := K.f31; have f32w3 := K.f32) | (go_at_call_of 12 (Value.int .i64 0); refine (rgood_eq 0 0 0 false hZ _).mono ?_; rintro e w4 ⟨rfl, hb⟩; have K2 := K.step hb; clear K hb; have K := K2; clear K2; have c00w4 := K.c00; have c01w4 := K.c01; have c02w4 := K.c02; have c10w4 := K.c10; have c11w4 := K.c11; have c12w4 := K.c12; have c20w4 := K.c20; have c21w4 := K.c21; have c22w4 := K.c22; have c30w4 := K.c30; have c31w4 := K.c31; have c32w4 := K.c32; have f30w4 := K.f30; have f31w4 := K.f31; have f32w4 := K.f32) | (go_at_call 15; refine (lives_is _).mono ?_; rintro e w5 ⟨rfl, hb⟩; have K2 := K.step hb; clear K hb; have K := K2; clear K2))
  go_ret
  exact ⟨rfl, K.bel⟩

set_option maxHeartbeats 8000000 in
theorem jl_5 (a b c d e f s : Int) (w : World) (hs : IntKind.i64.wrap (c + f) = s) (hj : joinR a b c d e f s = (0, 0, 0, false)) (hA : decide (0 < sizeR a b c) = true) (hB : decide (0 < sizeR d e f) = true) (hS : decide (0 < sizeR a b s) = false) (k : (a != d) = false) (k' : (a == d) = true) (l : (b != e) = false) (l' : (b == e) = true) : Calls Try.prog 6 #[.agg #[.int .i64 a, .int .i64 b, .int .i64 c], .agg #[.int .i64 d, .int .i64 e, .int .i64 f]] w fun e w' => e = .returned (.bool true) ∧ Below w.heap.size w w' := by
  have J := H2.start a b c d e f w
  have EQ := eq3 0 0 0 0 0 0
  rw [beq_self_eq_true] at EQ
  go_enter Try.func6, Try.ntmps6
  go_wp2_with (first | (go_at_call 19; refine (join_eq a b c d e f s 0 0 0 false hs hj _).mono ?_; rintro e w1 ⟨rfl, hb⟩; have J2 := J.step hb; clear J hb; have J := J2; clear J2; have K := Hj.start J 0 0 0 0 0 0; have l0 : w.heap.size < w1.heap.size := blk_lt J.b0; have l1 : w.heap.size + 1 < w1.heap.size := blk_lt J.b1; have l2 : w.heap.size < w1.heap.size + 1 := Nat.lt_succ_of_lt (blk_lt J.b0); have l3 : w.heap.size + 1 < w1.heap.size + 1 := Nat.lt_succ_of_lt (blk_lt J.b1); have ac00 := J.c00; have ac01 := J.c01; have ac02 := J.c02; have ac10 := J.c10; have ac11 := J.c11; have ac12 := J.c12; have kc00 := K.c00; have kc01 := K.c01; have kc02 := K.c02; have kc10 := K.c10; have kc11 := K.c11; have kc12 := K.c12; have kc20 := K.c20; have kc21 := K.c21; have kc22 := K.c22; have kc30 := K.c30; have kc31 := K.c31; have kc32 := K.c32; have kf30 := K.f30; have kf31 := K.f31; have kf32 := K.f32) | (go_at_call_of 12 (Value.int .i64 c); refine (rgood_eq a b c true hA _).mono ?_; rintro e w2 ⟨rfl, hb⟩; have K2 := K.step hb; clear K hb; have K := K2; clear K2; have c00w2 := K.c00; have c01w2 := K.c01; have c02w2 := K.c02; have c10w2 := K.c10; have c11w2 := K.c11; have c12w2 := K.c12; have c20w2 := K.c20; have c21w2 := K.c21; have c22w2 := K.c22; have c30w2 := K.c30; have c31w2 := K.c31; have c32w2 := K.c32; have f30w2 := K.f30; have f31w2 := K.f31; have f32w2 := K.f32) | (go_at_call_of 12 (Value.int .i64 f); refine (rgood_eq d e f true hB _).mono ?_; rintro e w3 ⟨rfl, hb⟩; have K2 := K.step hb; clear K hb; have K := K2; clear K2; have c00w3 := K.c00; have c01w3 := K.c01; have c02w3 := K.c02; have c10w3 := K.c10; have c11w3 := K.c11; have c12w3 := K.c12; have c20w3 := K.c20; have c21w3 := K.c21; have c22w3 := K.c22; have c30w3 := K.c30; have c31w3 := K.c31; have c32w3 := K.c32; have f30w3 := K.f30; have f31w3 := K.f31; have f32w3 := K.f32) | (go_at_call_of 12 (Value.int .i64 s); refine (rgood_eq a b s false hS _).mono ?_; rintro e w4 ⟨rfl, hb⟩; have K3 := K.puts a b s; clear K; have K := K3; clear K3; have K2 := K.step hb; clear K hb; have K := K2; clear K2; have c00w4 := K.c00; have c01w4 := K.c01; have c02w4 := K.c02; have c10w4 := K.c10; have c11w4 := K.c11; have c12w4 := K.c12; have c20w4 := K.c20; have c21w4 := K.c21; have c22w4 := K.c22; have c30w4 := K.c30; have c31w4 := K.c31; have c32w4 := K.c32; have f30w4 := K.f30; have f31w4 := K.f31; have f32w4 := K.f32) | (go_at_call 15; refine (lives_is _).mono ?_; rintro e w5 ⟨rfl, hb⟩; have K2 := K.step hb; clear K hb; have K := K2; clear K2))
  go_ret
  exact ⟨rfl, K.bel⟩

set_option maxHeartbeats 8000000 in
theorem jl_6 (a b c d e f s : Int) (w : World) (hs : IntKind.i64.wrap (c + f) = s) (hj : joinR a b c d e f s = (a, b, s, true)) (hA : decide (0 < sizeR a b c) = true) (hB : decide (0 < sizeR d e f) = true) (hS : decide (0 < sizeR a b s) = true) (k : (a != d) = false) (k' : (a == d) = true) (l : (b != e) = false) (l' : (b == e) = true) : Calls Try.prog 6 #[.agg #[.int .i64 a, .int .i64 b, .int .i64 c], .agg #[.int .i64 d, .int .i64 e, .int .i64 f]] w fun e w' => e = .returned (.bool true) ∧ Below w.heap.size w w' := by
  have J := H2.start a b c d e f w
  have EQ := eq3 a b s a b s
  rw [beq_self_eq_true, beq_self_eq_true, beq_self_eq_true] at EQ
  go_enter Try.func6, Try.ntmps6
  go_wp2_with (first | (go_at_call 19; refine (join_eq a b c d e f s a b s true hs hj _).mono ?_; rintro e w1 ⟨rfl, hb⟩; have J2 := J.step hb; clear J hb; have J := J2; clear J2; have K := Hj.start J a b s 0 0 0; have l0 : w.heap.size < w1.heap.size := blk_lt J.b0; have l1 : w.heap.size + 1 < w1.heap.size := blk_lt J.b1; have l2 : w.heap.size < w1.heap.size + 1 := Nat.lt_succ_of_lt (blk_lt J.b0); have l3 : w.heap.size + 1 < w1.heap.size + 1 := Nat.lt_succ_of_lt (blk_lt J.b1); have ac00 := J.c00; have ac01 := J.c01; have ac02 := J.c02; have ac10 := J.c10; have ac11 := J.c11; have ac12 := J.c12; have kc00 := K.c00; have kc01 := K.c01; have kc02 := K.c02; have kc10 := K.c10; have kc11 := K.c11; have kc12 := K.c12; have kc20 := K.c20; have kc21 := K.c21; have kc22 := K.c22; have kc30 := K.c30; have kc31 := K.c31; have kc32 := K.c32; have kf30 := K.f30; have kf31 := K.f31; have kf32 := K.f32) | (go_at_call_of 12 (Value.int .i64 c); refine (rgood_eq a b c true hA _).mono ?_; rintro e w2 ⟨rfl, hb⟩; have K2 := K.step hb; clear K hb; have K := K2; clear K2; have c00w2 := K.c00; have c01w2 := K.c01; have c02w2 := K.c02; have c10w2 := K.c10; have c11w2 := K.c11; have c12w2 := K.c12; have c20w2 := K.c20; have c21w2 := K.c21; have c22w2 := K.c22; have c30w2 := K.c30; have c31w2 := K.c31; have c32w2 := K.c32; have f30w2 := K.f30; have f31w2 := K.f31; have f32w2 := K.f32) | (go_at_call_of 12 (Value.int .i64 f); refine (rgood_eq d e f true hB _).mono ?_; rintro e w3 ⟨rfl, hb⟩; have K2 := K.step hb; clear K hb; have K := K2; clear K2; have c00w3 := K.c00; have c01w3 := K.c01; have c02w3 := K.c02; have c10w3 := K.c10; have c11w3 := K.c11; have c12w3 := K.c12; have c20w3 := K.c20; have c21w3 := K.c21; have c22w3 := K.c22; have c30w3 := K.c30; have c31w3 := K.c31; have c32w3 := K.c32; have f30w3 := K.f30; have f31w3 := K.f31; have f32w3 := K.f32) | (go_at_call_of 12 (Value.int .i64 s); refine (rgood_eq a b s true hS _).mono ?_; rintro e w4 ⟨rfl, hb⟩; have K3 := K.puts a b s; clear K; have K := K3; clear K3; have K2 := K.step hb; clear K hb; have K := K2; clear K2; have c00w4 := K.c00; have c01w4 := K.c01; have c02w4 := K.c02; have c10w4 := K.c10; have c11w4 := K.c11; have c12w4 := K.c12; have c20w4 := K.c20; have c21w4 := K.c21; have c22w4 := K.c22; have c30w4 := K.c30; have c31w4 := K.c31; have c32w4 := K.c32; have f30w4 := K.f30; have f31w4 := K.f31; have f32w4 := K.f32) | (go_at_call 15; refine (lives_is _).mono ?_; rintro e w5 ⟨rfl, hb⟩; have K2 := K.step hb; clear K hb; have K := K2; clear K2))
  go_ret
  exact ⟨rfl, K.bel⟩

theorem size_nn (a b c : Int) (h : sizeR a b c ≠ 0) : 0 < sizeR a b c := by
  obtain ⟨⟨a0, a1⟩, ⟨b0, b1⟩, ⟨c0, c1⟩, hl, hs⟩ := size_nz a b c h
  obtain ⟨p0, p1⟩ := prod2 a b a0 a1 b0 b1
  obtain ⟨q0, q1⟩ := prod3 (a * b) c p0 p1 c0 c1
  omega

theorem join_law (a b c d e f : Int) (w : World) : Calls Try.prog 6 #[.agg #[.int .i64 a, .int .i64 b, .int .i64 c], .agg #[.int .i64 d, .int .i64 e, .int .i64 f]] w fun e w' => e = .returned (.bool true) ∧ Below w.heap.size w w' := by
  obtain ⟨s, hs⟩ : ∃ s, IntKind.i64.wrap (c + f) = s := ⟨_, rfl⟩
  have hZ : decide (0 < sizeR 0 0 0) = false := by decide
  have no : ¬ (sizeR a b c ≠ 0 ∧ sizeR d e f ≠ 0 ∧ a = d ∧ b = e ∧ sizeR a b s ≠ 0) → joinR a b c d e f s = (0, 0, 0, false) := fun h => by unfold joinR; rw [if_neg h]
  have z : ∀ a b c, sizeR a b c = 0 → decide (0 < sizeR a b c) = false := fun a b c h => by rw [h]; rfl
  have nz : ∀ a b c, ¬ sizeR a b c = 0 → decide (0 < sizeR a b c) = true := fun a b c h => decide_eq_true (size_nn a b c h)
  by_cases h1 : sizeR a b c = 0
  · exact jl_1 a b c d e f s w hs (no (fun k => k.1 h1)) (z _ _ _ h1) hZ
  by_cases h2 : sizeR d e f = 0
  · exact jl_2 a b c d e f s w hs (no (fun k => k.2.1 h2)) (nz _ _ _ h1) (z _ _ _ h2) hZ
  by_cases h3 : a = d
  rotate_left
  · exact jl_3 a b c d e f s w hs (no (fun k => h3 k.2.2.1)) (nz _ _ _ h1) (nz _ _ _ h2) hZ (bne_iff_ne.mpr h3) (beq_eq_false_iff_ne.mpr h3)
  have k3 : (a != d) = false := by rw [h3]; exact bne_self_eq_false d
  have k3' : (a == d) = true := beq_iff_eq.mpr h3
  by_cases h4 : b = e
  rotate_left
  · exact jl_4 a b c d e f s w hs (no (fun k => h4 k.2.2.2.1)) (nz _ _ _ h1) (nz _ _ _ h2) hZ k3 k3' (bne_iff_ne.mpr h4) (beq_eq_false_iff_ne.mpr h4)
  have k4 : (b != e) = false := by rw [h4]; exact bne_self_eq_false e
  have k4' : (b == e) = true := beq_iff_eq.mpr h4
  by_cases h5 : sizeR a b s = 0
  · exact jl_5 a b c d e f s w hs (no (fun k => k.2.2.2.2 h5)) (nz _ _ _ h1) (nz _ _ _ h2) (z _ _ _ h5) k3 k3' k4 k4'
  · exact jl_6 a b c d e f s w hs (by unfold joinR; rw [if_pos ⟨h1, h2, h3, h4, h5⟩]) (nz _ _ _ h1) (nz _ _ _ h2) (nz _ _ _ h5) k3 k3' k4 k4'

end Go.Proofs.Ytfcimgdogkpbcaa.T1
