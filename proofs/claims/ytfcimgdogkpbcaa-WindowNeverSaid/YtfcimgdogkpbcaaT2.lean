/- tensor.Good, Size and At, by tensor.size; for every shape and place. No condition beyond those in its statements. -/
import Derived.Test.YtfcimgdogkpbcaaT1
namespace Go.Proofs.Ytfcimgdogkpbcaa.T1
open Go.RowKit
set_option linter.unusedVariables false
set_option maxRecDepth 100000

theorem below_step {w W w2 : World} (h : Below w.heap.size w W) (k : Below W.heap.size W w2) : Below w.heap.size w w2 := h.trans (k.mono h.size)
theorem below_set {w W : World} {g j : Nat} {v : Value} (h : Below w.heap.size w W) (hg : w.heap.size ≤ g) : Below w.heap.size w (W.setCell ⟨g, j, none⟩ v) := h.setCell hg _
theorem blk_lt {w : World} {g : Nat} {o : Obj} (h : w.heap[g]? = some o) : g < w.heap.size := (Array.getElem?_eq_some_iff.1 h).1
theorem blk_cell {w : World} {g : Nat} {t : TypeId} {cs : Array Value} (h : w.heap[g]? = some (.cells cs t (0, 0))) (i : Nat) : w.cell? ⟨g, i, none⟩ = cs[i]? := by
  exact cell_of_row w g i cs t (0, 0) h
theorem blk_frozen {w : World} {g : Nat} {t : TypeId} {cs : Array Value} (h : w.heap[g]? = some (.cells cs t (0, 0))) (i : Nat) : w.frozen? ⟨g, i, none⟩ = false := by simp [World.frozen?, h]
theorem blk_alloc {w : World} {g : Nat} {o : Obj} (h : w.heap[g]? = some o) (o' : Obj) : (w.alloc o').heap[g]? = some o := (Below.heap_alloc w o' g (blk_lt h)).trans h
theorem blk_below {w w1 : World} {g : Nat} {o : Obj} (h : w.heap[g]? = some o) (hb : Below w.heap.size w w1) : w1.heap[g]? = some o := (hb.block g (blk_lt h)).trans h
theorem blk_new (w : World) (o : Obj) : (w.alloc o).heap[w.heap.size]? = some o := heap_alloc_new w o
theorem blk_far {w : World} {g : Nat} {t : TypeId} {cs : Array Value} (h : w.heap[g]? = some (.cells cs t (0, 0))) {p : Addr} (hp : g ≠ p.block) (u : Value) : (w.setCell p u).heap[g]? = some (.cells cs t (0, 0)) := (Below.heap_setCell w p u g hp).trans h
theorem blk_put {w : World} {g : Nat} {t : TypeId} {cs cs' : Array Value} (h : w.heap[g]? = some (.cells cs t (0, 0))) (i : Nat) (u : Value) (e : cs.setIfInBounds i u = cs') : (w.setCell ⟨g, i, none⟩ u).heap[g]? = some (.cells cs' t (0, 0)) := by
  subst e
  simp [World.setCell, Array.getElem?_modify, h]

/-- A shape, as a value. -/
abbrev box3 (a b c : Int) : Obj := .cells #[.int .i64 a, .int .i64 b, .int .i64 c] 22 (0, 0)

/-- One call, and what its world keeps. -/
theorem good_is (a b c : Int) (w : World) : Calls Try.prog 11 #[.agg #[.int .i64 a, .int .i64 b, .int .i64 c]] w fun e w' => e = .returned (.bool (decide (0 < sizeR a b c))) ∧ Below w.heap.size w w' := by
  go_enter Try.func11, Try.ntmps11
  go_wp2_with (go_at_call 28; refine (size_any a b c _).mono ?_; rintro e w' ⟨rfl, hb⟩; have HB := Lib.hid hb; clear hb)
  go_ret
  exact ⟨rfl, below_step (below_alloc (Below.refl _ _) _) HB.out⟩

theorem sz_is (a b c : Int) (w : World) : Calls Try.prog 13 #[.agg #[.int .i64 a, .int .i64 b, .int .i64 c]] w fun e w' => e = .returned (.int .i64 (sizeR a b c)) ∧ Below w.heap.size w w' := by
  go_enter Try.func13, Try.ntmps13
  go_wp2_with (go_at_call 28; refine (size_any a b c _).mono ?_; rintro e w' ⟨rfl, hb⟩; have HB := Lib.hid hb; clear hb)
  go_ret
  exact ⟨rfl, below_step (below_alloc (Below.refl _ _) _) HB.out⟩

theorem size_eq (a b c n : Int) (h : sizeR a b c = n) (w : World) : Calls Try.prog 28 #[.agg #[.int .i64 a, .int .i64 b, .int .i64 c]] w fun e w' => e = .returned (.int .i64 n) ∧ Below w.heap.size w w' := by
  subst h
  exact size_any a b c w

def inB (k n : Int) : Prop := 0 ≤ k ∧ k < n

theorem at_none (a b c y x z : Int) (w : World) (h : sizeR a b c = 0) : Calls Try.prog 16 #[.agg #[.int .i64 a, .int .i64 b, .int .i64 c], .int .i64 y, .int .i64 x, .int .i64 z] w fun e w' => e = .returned (.tuple #[.int .i64 0, .bool false]) ∧ Below w.heap.size w w' := by
  have BK := Lib.hid (blk_new w (box3 a b c))
  have HB := Lib.hid (below_alloc (Below.refl _ _) (box3 a b c) : Below w.heap.size w _)
  have j0 := i0 y x z
  go_enter Try.func16, Try.ntmps16
  go_wp2
  refine wp_loop_rounds 4 ?_
  rw [rounds_succ]
  go_wp2_with (go_at_call 28; refine (size_eq a b c 0 h _).mono ?_; rintro e w' ⟨rfl, hb⟩; have BK2 := Lib.hid (blk_below BK.out hb); have HB2 := Lib.hid (below_step HB.out hb); clear hb; have hc0 : w'.cell? ⟨w.heap.size, 0, none⟩ = some (.int .i64 a) := (blk_cell BK2.out 0).trans rfl)
  go_ret2
  exact ⟨rfl, HB2.out⟩

theorem at_bad0lo (a b c y x z n : Int) (w : World) (h : sizeR a b c = n) (hn : n ≠ 0) (hx : y < 0) : Calls Try.prog 16 #[.agg #[.int .i64 a, .int .i64 b, .int .i64 c], .int .i64 y, .int .i64 x, .int .i64 z] w fun e w' => e = .returned (.tuple #[.int .i64 0, .bool false]) ∧ Below w.heap.size w w' := by
  have BK := Lib.hid (blk_new w (box3 a b c))
  have HB := Lib.hid (below_alloc (Below.refl _ _) (box3 a b c) : Below w.heap.size w _)
  have j0 := i0 y x z
  have j1 := i1 y x z
  have j2 := i2 y x z
  have n1 : (n == 0) = false := beq_eq_false_iff_ne.mpr hn
  have g0 : decide (y < 0) = true := decide_eq_true (by omega)
  go_enter Try.func16, Try.ntmps16
  go_wp2
  refine wp_loop_rounds 4 ?_
  rw [rounds_succ]
  go_wp2_with (go_at_call 28; refine (size_eq a b c n h _).mono ?_; rintro e w' ⟨rfl, hb⟩; have BK2 := Lib.hid (blk_below BK.out hb); have HB2 := Lib.hid (below_step HB.out hb); clear hb BK HB; have BK := BK2; have HB := HB2; clear BK2 HB2; have hc0 : w'.cell? ⟨w.heap.size, 0, none⟩ = some (.int .i64 a) := (blk_cell BK.out 0).trans rfl; have hc1 : w'.cell? ⟨w.heap.size, 1, none⟩ = some (.int .i64 b) := (blk_cell BK.out 1).trans rfl; have hc2 : w'.cell? ⟨w.heap.size, 2, none⟩ = some (.int .i64 c) := (blk_cell BK.out 2).trans rfl)
  go_ret2
  exact ⟨rfl, HB.out⟩

theorem at_bad0hi (a b c y x z n : Int) (w : World) (h : sizeR a b c = n) (hn : n ≠ 0) (hx : 0 ≤ y) (hy : a ≤ y) : Calls Try.prog 16 #[.agg #[.int .i64 a, .int .i64 b, .int .i64 c], .int .i64 y, .int .i64 x, .int .i64 z] w fun e w' => e = .returned (.tuple #[.int .i64 0, .bool false]) ∧ Below w.heap.size w w' := by
  have BK := Lib.hid (blk_new w (box3 a b c))
  have HB := Lib.hid (below_alloc (Below.refl _ _) (box3 a b c) : Below w.heap.size w _)
  have j0 := i0 y x z
  have j1 := i1 y x z
  have j2 := i2 y x z
  have n1 : (n == 0) = false := beq_eq_false_iff_ne.mpr hn
  have g0 : decide (y < 0) = false := decide_eq_false (by omega)
  have k0 : decide (a ≤ y) = true := decide_eq_true (by omega)
  go_enter Try.func16, Try.ntmps16
  go_wp2
  refine wp_loop_rounds 4 ?_
  rw [rounds_succ]
  go_wp2_with (go_at_call 28; refine (size_eq a b c n h _).mono ?_; rintro e w' ⟨rfl, hb⟩; have BK2 := Lib.hid (blk_below BK.out hb); have HB2 := Lib.hid (below_step HB.out hb); clear hb BK HB; have BK := BK2; have HB := HB2; clear BK2 HB2; have hc0 : w'.cell? ⟨w.heap.size, 0, none⟩ = some (.int .i64 a) := (blk_cell BK.out 0).trans rfl; have hc1 : w'.cell? ⟨w.heap.size, 1, none⟩ = some (.int .i64 b) := (blk_cell BK.out 1).trans rfl; have hc2 : w'.cell? ⟨w.heap.size, 2, none⟩ = some (.int .i64 c) := (blk_cell BK.out 2).trans rfl)
  go_ret2
  exact ⟨rfl, HB.out⟩

theorem at_bad1lo (a b c y x z n : Int) (w : World) (h : sizeR a b c = n) (hn : n ≠ 0) (h0 : 0 ≤ y ∧ y < a) (hx : x < 0) : Calls Try.prog 16 #[.agg #[.int .i64 a, .int .i64 b, .int .i64 c], .int .i64 y, .int .i64 x, .int .i64 z] w fun e w' => e = .returned (.tuple #[.int .i64 0, .bool false]) ∧ Below w.heap.size w w' := by
  have BK := Lib.hid (blk_new w (box3 a b c))
  have HB := Lib.hid (below_alloc (Below.refl _ _) (box3 a b c) : Below w.heap.size w _)
  have j0 := i0 y x z
  have j1 := i1 y x z
  have j2 := i2 y x z
  have n1 : (n == 0) = false := beq_eq_false_iff_ne.mpr hn
  have g0 : decide (y < 0) = false := decide_eq_false (by omega)
  have k0 : decide (a ≤ y) = false := decide_eq_false (by omega)
  have g1 : decide (x < 0) = true := decide_eq_true (by omega)
  go_enter Try.func16, Try.ntmps16
  go_wp2
  refine wp_loop_rounds 4 ?_
  rw [rounds_succ]
  go_wp2_with (go_at_call 28; refine (size_eq a b c n h _).mono ?_; rintro e w' ⟨rfl, hb⟩; have BK2 := Lib.hid (blk_below BK.out hb); have HB2 := Lib.hid (below_step HB.out hb); clear hb BK HB; have BK := BK2; have HB := HB2; clear BK2 HB2; have hc0 : w'.cell? ⟨w.heap.size, 0, none⟩ = some (.int .i64 a) := (blk_cell BK.out 0).trans rfl; have hc1 : w'.cell? ⟨w.heap.size, 1, none⟩ = some (.int .i64 b) := (blk_cell BK.out 1).trans rfl; have hc2 : w'.cell? ⟨w.heap.size, 2, none⟩ = some (.int .i64 c) := (blk_cell BK.out 2).trans rfl)
  rw [rounds_succ]
  go_wp2_with (go_at_call 28; refine (size_eq a b c n h _).mono ?_; rintro e w' ⟨rfl, hb⟩; have BK2 := Lib.hid (blk_below BK.out hb); have HB2 := Lib.hid (below_step HB.out hb); clear hb BK HB; have BK := BK2; have HB := HB2; clear BK2 HB2; have hc0 : w'.cell? ⟨w.heap.size, 0, none⟩ = some (.int .i64 a) := (blk_cell BK.out 0).trans rfl; have hc1 : w'.cell? ⟨w.heap.size, 1, none⟩ = some (.int .i64 b) := (blk_cell BK.out 1).trans rfl; have hc2 : w'.cell? ⟨w.heap.size, 2, none⟩ = some (.int .i64 c) := (blk_cell BK.out 2).trans rfl)
  go_ret2
  exact ⟨rfl, HB.out⟩

theorem at_bad1hi (a b c y x z n : Int) (w : World) (h : sizeR a b c = n) (hn : n ≠ 0) (h0 : 0 ≤ y ∧ y < a) (hx : 0 ≤ x) (hy : b ≤ x) : Calls Try.prog 16 #[.agg #[.int .i64 a, .int .i64 b, .int .i64 c], .int .i64 y, .int .i64 x, .int .i64 z] w fun e w' => e = .returned (.tuple #[.int .i64 0, .bool false]) ∧ Below w.heap.size w w' := by
  have BK := Lib.hid (blk_new w (box3 a b c))
  have HB := Lib.hid (below_alloc (Below.refl _ _) (box3 a b c) : Below w.heap.size w _)
  have j0 := i0 y x z
  have j1 := i1 y x z
  have j2 := i2 y x z
  have n1 : (n == 0) = false := beq_eq_false_iff_ne.mpr hn
  have g0 : decide (y < 0) = false := decide_eq_false (by omega)
  have k0 : decide (a ≤ y) = false := decide_eq_false (by omega)
  have g1 : decide (x < 0) = false := decide_eq_false (by omega)
  have k1 : decide (b ≤ x) = true := decide_eq_true (by omega)
  go_enter Try.func16, Try.ntmps16
  go_wp2
  refine wp_loop_rounds 4 ?_
  rw [rounds_succ]
  go_wp2_with (go_at_call 28; refine (size_eq a b c n h _).mono ?_; rintro e w' ⟨rfl, hb⟩; have BK2 := Lib.hid (blk_below BK.out hb); have HB2 := Lib.hid (below_step HB.out hb); clear hb BK HB; have BK := BK2; have HB := HB2; clear BK2 HB2; have hc0 : w'.cell? ⟨w.heap.size, 0, none⟩ = some (.int .i64 a) := (blk_cell BK.out 0).trans rfl; have hc1 : w'.cell? ⟨w.heap.size, 1, none⟩ = some (.int .i64 b) := (blk_cell BK.out 1).trans rfl; have hc2 : w'.cell? ⟨w.heap.size, 2, none⟩ = some (.int .i64 c) := (blk_cell BK.out 2).trans rfl)
  rw [rounds_succ]
  go_wp2_with (go_at_call 28; refine (size_eq a b c n h _).mono ?_; rintro e w' ⟨rfl, hb⟩; have BK2 := Lib.hid (blk_below BK.out hb); have HB2 := Lib.hid (below_step HB.out hb); clear hb BK HB; have BK := BK2; have HB := HB2; clear BK2 HB2; have hc0 : w'.cell? ⟨w.heap.size, 0, none⟩ = some (.int .i64 a) := (blk_cell BK.out 0).trans rfl; have hc1 : w'.cell? ⟨w.heap.size, 1, none⟩ = some (.int .i64 b) := (blk_cell BK.out 1).trans rfl; have hc2 : w'.cell? ⟨w.heap.size, 2, none⟩ = some (.int .i64 c) := (blk_cell BK.out 2).trans rfl)
  go_ret2
  exact ⟨rfl, HB.out⟩

theorem at_bad2lo (a b c y x z n : Int) (w : World) (h : sizeR a b c = n) (hn : n ≠ 0) (h0 : 0 ≤ y ∧ y < a) (h1 : 0 ≤ x ∧ x < b) (hx : z < 0) : Calls Try.prog 16 #[.agg #[.int .i64 a, .int .i64 b, .int .i64 c], .int .i64 y, .int .i64 x, .int .i64 z] w fun e w' => e = .returned (.tuple #[.int .i64 0, .bool false]) ∧ Below w.heap.size w w' := by
  have BK := Lib.hid (blk_new w (box3 a b c))
  have HB := Lib.hid (below_alloc (Below.refl _ _) (box3 a b c) : Below w.heap.size w _)
  have j0 := i0 y x z
  have j1 := i1 y x z
  have j2 := i2 y x z
  have n1 : (n == 0) = false := beq_eq_false_iff_ne.mpr hn
  have g0 : decide (y < 0) = false := decide_eq_false (by omega)
  have k0 : decide (a ≤ y) = false := decide_eq_false (by omega)
  have g1 : decide (x < 0) = false := decide_eq_false (by omega)
  have k1 : decide (b ≤ x) = false := decide_eq_false (by omega)
  have g2 : decide (z < 0) = true := decide_eq_true (by omega)
  go_enter Try.func16, Try.ntmps16
  go_wp2
  refine wp_loop_rounds 4 ?_
  rw [rounds_succ]
  go_wp2_with (go_at_call 28; refine (size_eq a b c n h _).mono ?_; rintro e w' ⟨rfl, hb⟩; have BK2 := Lib.hid (blk_below BK.out hb); have HB2 := Lib.hid (below_step HB.out hb); clear hb BK HB; have BK := BK2; have HB := HB2; clear BK2 HB2; have hc0 : w'.cell? ⟨w.heap.size, 0, none⟩ = some (.int .i64 a) := (blk_cell BK.out 0).trans rfl; have hc1 : w'.cell? ⟨w.heap.size, 1, none⟩ = some (.int .i64 b) := (blk_cell BK.out 1).trans rfl; have hc2 : w'.cell? ⟨w.heap.size, 2, none⟩ = some (.int .i64 c) := (blk_cell BK.out 2).trans rfl)
  rw [rounds_succ]
  go_wp2_with (go_at_call 28; refine (size_eq a b c n h _).mono ?_; rintro e w' ⟨rfl, hb⟩; have BK2 := Lib.hid (blk_below BK.out hb); have HB2 := Lib.hid (below_step HB.out hb); clear hb BK HB; have BK := BK2; have HB := HB2; clear BK2 HB2; have hc0 : w'.cell? ⟨w.heap.size, 0, none⟩ = some (.int .i64 a) := (blk_cell BK.out 0).trans rfl; have hc1 : w'.cell? ⟨w.heap.size, 1, none⟩ = some (.int .i64 b) := (blk_cell BK.out 1).trans rfl; have hc2 : w'.cell? ⟨w.heap.size, 2, none⟩ = some (.int .i64 c) := (blk_cell BK.out 2).trans rfl)
  rw [rounds_succ]
  go_wp2_with (go_at_call 28; refine (size_eq a b c n h _).mono ?_; rintro e w' ⟨rfl, hb⟩; have BK2 := Lib.hid (blk_below BK.out hb); have HB2 := Lib.hid (below_step HB.out hb); clear hb BK HB; have BK := BK2; have HB := HB2; clear BK2 HB2; have hc0 : w'.cell? ⟨w.heap.size, 0, none⟩ = some (.int .i64 a) := (blk_cell BK.out 0).trans rfl; have hc1 : w'.cell? ⟨w.heap.size, 1, none⟩ = some (.int .i64 b) := (blk_cell BK.out 1).trans rfl; have hc2 : w'.cell? ⟨w.heap.size, 2, none⟩ = some (.int .i64 c) := (blk_cell BK.out 2).trans rfl)
  go_ret2
  exact ⟨rfl, HB.out⟩

theorem at_bad2hi (a b c y x z n : Int) (w : World) (h : sizeR a b c = n) (hn : n ≠ 0) (h0 : 0 ≤ y ∧ y < a) (h1 : 0 ≤ x ∧ x < b) (hx : 0 ≤ z) (hy : c ≤ z) : Calls Try.prog 16 #[.agg #[.int .i64 a, .int .i64 b, .int .i64 c], .int .i64 y, .int .i64 x, .int .i64 z] w fun e w' => e = .returned (.tuple #[.int .i64 0, .bool false]) ∧ Below w.heap.size w w' := by
  have BK := Lib.hid (blk_new w (box3 a b c))
  have HB := Lib.hid (below_alloc (Below.refl _ _) (box3 a b c) : Below w.heap.size w _)
  have j0 := i0 y x z
  have j1 := i1 y x z
  have j2 := i2 y x z
  have n1 : (n == 0) = false := beq_eq_false_iff_ne.mpr hn
  have g0 : decide (y < 0) = false := decide_eq_false (by omega)
  have k0 : decide (a ≤ y) = false := decide_eq_false (by omega)
  have g1 : decide (x < 0) = false := decide_eq_false (by omega)
  have k1 : decide (b ≤ x) = false := decide_eq_false (by omega)
  have g2 : decide (z < 0) = false := decide_eq_false (by omega)
  have k2 : decide (c ≤ z) = true := decide_eq_true (by omega)
  go_enter Try.func16, Try.ntmps16
  go_wp2
  refine wp_loop_rounds 4 ?_
  rw [rounds_succ]
  go_wp2_with (go_at_call 28; refine (size_eq a b c n h _).mono ?_; rintro e w' ⟨rfl, hb⟩; have BK2 := Lib.hid (blk_below BK.out hb); have HB2 := Lib.hid (below_step HB.out hb); clear hb BK HB; have BK := BK2; have HB := HB2; clear BK2 HB2; have hc0 : w'.cell? ⟨w.heap.size, 0, none⟩ = some (.int .i64 a) := (blk_cell BK.out 0).trans rfl; have hc1 : w'.cell? ⟨w.heap.size, 1, none⟩ = some (.int .i64 b) := (blk_cell BK.out 1).trans rfl; have hc2 : w'.cell? ⟨w.heap.size, 2, none⟩ = some (.int .i64 c) := (blk_cell BK.out 2).trans rfl)
  rw [rounds_succ]
  go_wp2_with (go_at_call 28; refine (size_eq a b c n h _).mono ?_; rintro e w' ⟨rfl, hb⟩; have BK2 := Lib.hid (blk_below BK.out hb); have HB2 := Lib.hid (below_step HB.out hb); clear hb BK HB; have BK := BK2; have HB := HB2; clear BK2 HB2; have hc0 : w'.cell? ⟨w.heap.size, 0, none⟩ = some (.int .i64 a) := (blk_cell BK.out 0).trans rfl; have hc1 : w'.cell? ⟨w.heap.size, 1, none⟩ = some (.int .i64 b) := (blk_cell BK.out 1).trans rfl; have hc2 : w'.cell? ⟨w.heap.size, 2, none⟩ = some (.int .i64 c) := (blk_cell BK.out 2).trans rfl)
  rw [rounds_succ]
  go_wp2_with (go_at_call 28; refine (size_eq a b c n h _).mono ?_; rintro e w' ⟨rfl, hb⟩; have BK2 := Lib.hid (blk_below BK.out hb); have HB2 := Lib.hid (below_step HB.out hb); clear hb BK HB; have BK := BK2; have HB := HB2; clear BK2 HB2; have hc0 : w'.cell? ⟨w.heap.size, 0, none⟩ = some (.int .i64 a) := (blk_cell BK.out 0).trans rfl; have hc1 : w'.cell? ⟨w.heap.size, 1, none⟩ = some (.int .i64 b) := (blk_cell BK.out 1).trans rfl; have hc2 : w'.cell? ⟨w.heap.size, 2, none⟩ = some (.int .i64 c) := (blk_cell BK.out 2).trans rfl)
  go_ret2
  exact ⟨rfl, HB.out⟩

theorem at_good (a b c y x z n : Int) (w : World) (h : sizeR a b c = n) (hn : n ≠ 0) (h0 : 0 ≤ y ∧ y < a) (h1 : 0 ≤ x ∧ x < b) (h2 : 0 ≤ z ∧ z < c) (u0 : 0 ≤ y * b) (u1 : y * b ≤ 4096) (u2 : 0 ≤ (y * b + x) * c) (u3 : (y * b + x) * c ≤ 524288) (hz : z < 64) (hx64 : x < 64) (hy64 : y < 64) : Calls Try.prog 16 #[.agg #[.int .i64 a, .int .i64 b, .int .i64 c], .int .i64 y, .int .i64 x, .int .i64 z] w fun e w' => e = .returned (.tuple #[.int .i64 ((y * b + x) * c + z), .bool true]) ∧ Below w.heap.size w w' := by
  have BK := Lib.hid (blk_new w (box3 a b c))
  have HB := Lib.hid (below_alloc (Below.refl _ _) (box3 a b c) : Below w.heap.size w _)
  have j0 := i0 y x z
  have j1 := i1 y x z
  have j2 := i2 y x z
  have n1 : (n == 0) = false := beq_eq_false_iff_ne.mpr hn
  have g0 : decide (y < 0) = false := decide_eq_false (by omega)
  have k0 : decide (a ≤ y) = false := decide_eq_false (by omega)
  have g1 : decide (x < 0) = false := decide_eq_false (by omega)
  have k1 : decide (b ≤ x) = false := decide_eq_false (by omega)
  have g2 : decide (z < 0) = false := decide_eq_false (by omega)
  have k2 : decide (c ≤ z) = false := decide_eq_false (by omega)
  go_enter Try.func16, Try.ntmps16
  go_wp2
  refine wp_loop_rounds 4 ?_
  rw [rounds_succ]
  go_wp2_with (go_at_call 28; refine (size_eq a b c n h _).mono ?_; rintro e w' ⟨rfl, hb⟩; have BK2 := Lib.hid (blk_below BK.out hb); have HB2 := Lib.hid (below_step HB.out hb); clear hb BK HB; have BK := BK2; have HB := HB2; clear BK2 HB2; have hc0 : w'.cell? ⟨w.heap.size, 0, none⟩ = some (.int .i64 a) := (blk_cell BK.out 0).trans rfl; have hc1 : w'.cell? ⟨w.heap.size, 1, none⟩ = some (.int .i64 b) := (blk_cell BK.out 1).trans rfl; have hc2 : w'.cell? ⟨w.heap.size, 2, none⟩ = some (.int .i64 c) := (blk_cell BK.out 2).trans rfl)
  rw [rounds_succ]
  go_wp2_with (go_at_call 28; refine (size_eq a b c n h _).mono ?_; rintro e w' ⟨rfl, hb⟩; have BK2 := Lib.hid (blk_below BK.out hb); have HB2 := Lib.hid (below_step HB.out hb); clear hb BK HB; have BK := BK2; have HB := HB2; clear BK2 HB2; have hc0 : w'.cell? ⟨w.heap.size, 0, none⟩ = some (.int .i64 a) := (blk_cell BK.out 0).trans rfl; have hc1 : w'.cell? ⟨w.heap.size, 1, none⟩ = some (.int .i64 b) := (blk_cell BK.out 1).trans rfl; have hc2 : w'.cell? ⟨w.heap.size, 2, none⟩ = some (.int .i64 c) := (blk_cell BK.out 2).trans rfl)
  rw [rounds_succ]
  go_wp2_with (go_at_call 28; refine (size_eq a b c n h _).mono ?_; rintro e w' ⟨rfl, hb⟩; have BK2 := Lib.hid (blk_below BK.out hb); have HB2 := Lib.hid (below_step HB.out hb); clear hb BK HB; have BK := BK2; have HB := HB2; clear BK2 HB2; have hc0 : w'.cell? ⟨w.heap.size, 0, none⟩ = some (.int .i64 a) := (blk_cell BK.out 0).trans rfl; have hc1 : w'.cell? ⟨w.heap.size, 1, none⟩ = some (.int .i64 b) := (blk_cell BK.out 1).trans rfl; have hc2 : w'.cell? ⟨w.heap.size, 2, none⟩ = some (.int .i64 c) := (blk_cell BK.out 2).trans rfl)
  rw [rounds_succ]
  go_wp2
  go_ret2
  exact ⟨rfl, HB.out⟩

/-- The place of an element, or none. -/
def atR (a b c y x z : Int) : Int × Bool := if sizeR a b c ≠ 0 ∧ (0 ≤ y ∧ y < a) ∧ (0 ≤ x ∧ x < b) ∧ (0 ≤ z ∧ z < c) then ((y * b + x) * c + z, true) else (0, false)

theorem size_nz (a b c : Int) (h : sizeR a b c ≠ 0) : (1 ≤ a ∧ a ≤ 64) ∧ (1 ≤ b ∧ b ≤ 64) ∧ (1 ≤ c ∧ c ≤ 64) ∧ a * b * c ≤ 16384 ∧ sizeR a b c = a * b * c := by
  unfold sizeR at h ⊢
  by_cases k : (1 ≤ a ∧ a ≤ 64) ∧ (1 ≤ b ∧ b ≤ 64) ∧ (1 ≤ c ∧ c ≤ 64) ∧ a * b * c ≤ 16384
  · exact ⟨k.1, k.2.1, k.2.2.1, k.2.2.2, by rw [if_pos k]⟩
  · rw [if_neg k] at h; exact absurd rfl h

theorem at_any (a b c y x z : Int) (w : World) : Calls Try.prog 16 #[.agg #[.int .i64 a, .int .i64 b, .int .i64 c], .int .i64 y, .int .i64 x, .int .i64 z] w fun e w' => e = .returned (.tuple #[.int .i64 (atR a b c y x z).1, .bool (atR a b c y x z).2]) ∧ Below w.heap.size w w' := by
  by_cases h : sizeR a b c = 0
  · rw [show atR a b c y x z = (0, false) by unfold atR; rw [if_neg (fun k => k.1 h)]]
    exact at_none a b c y x z w h
  by_cases k0 : 0 ≤ y ∧ y < a
  rotate_left
  · rw [show atR a b c y x z = (0, false) by unfold atR; rw [if_neg (fun k => k0 k.2.1)]]
    by_cases l : y < 0
    · exact at_bad0lo a b c y x z _ w rfl h l
    · exact at_bad0hi a b c y x z _ w rfl h (by omega) (by omega)
  by_cases k1 : 0 ≤ x ∧ x < b
  rotate_left
  · rw [show atR a b c y x z = (0, false) by unfold atR; rw [if_neg (fun k => k1 k.2.2.1)]]
    by_cases l : x < 0
    · exact at_bad1lo a b c y x z _ w rfl h k0 l
    · exact at_bad1hi a b c y x z _ w rfl h k0 (by omega) (by omega)
  by_cases k2 : 0 ≤ z ∧ z < c
  rotate_left
  · rw [show atR a b c y x z = (0, false) by unfold atR; rw [if_neg (fun k => k2 k.2.2.2)]]
    by_cases l : z < 0
    · exact at_bad2lo a b c y x z _ w rfl h k0 k1 l
    · exact at_bad2hi a b c y x z _ w rfl h k0 k1 (by omega) (by omega)
  rw [show atR a b c y x z = ((y * b + x) * c + z, true) by unfold atR; rw [if_pos ⟨h, k0, k1, k2⟩]]
  obtain ⟨⟨a0, a1⟩, ⟨b0, b1⟩, ⟨c0, c1⟩, _, _⟩ := size_nz a b c h
  have u0 : 0 ≤ y * b := Int.mul_nonneg k0.1 (by omega)
  have u1 : y * b ≤ 63 * 64 := Int.mul_le_mul (by omega) b1 (by omega) (by decide)
  have u2 : 0 ≤ (y * b + x) * c := Int.mul_nonneg (by omega) (by omega)
  have u3 : (y * b + x) * c ≤ 8192 * 64 := Int.mul_le_mul (by omega) c1 (by omega) (by decide)
  exact at_good a b c y x z _ w rfl h k0 k1 k2 u0 (by omega) u2 (by omega) (by omega) (by omega) (by omega)

end Go.Proofs.Ytfcimgdogkpbcaa.T1
