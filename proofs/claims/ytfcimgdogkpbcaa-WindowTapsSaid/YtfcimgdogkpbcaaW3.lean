/- Window: of, the frame of a window, or that there is none. -/
import Derived.Test.YtfcimgdogkpbcaaW2
import Derived.Deep.QuietTactic
import Derived.BigQuiet
namespace Go.Proofs.Ytfcimgdogkpbcaa.W
open Go.RowKit T1 F
set_option linter.unusedVariables false
set_option linter.unusedSimpArgs false
set_option maxRecDepth 100000

theorem run_store_complex (P : Program) (w : World) (a : Addr) (k : FloatKind) (x y : Nat) (m : Mode) : (store a (.complex k x y) m).run P w = stored P w a (.complex k x y) m := run_store P w a _ m rfl
attribute [local go_sem] run_store_complex

abbrev box2 (a b : Int) : Obj := .cells #[.int .i64 a, .int .i64 b] 34 (0, 0)
abbrev box4 (a b c d : Int) : Obj := .cells #[.int .i64 a, .int .i64 b, .int .i64 c, .int .i64 d] 35 (0, 0)
abbrev z5 : Obj := .cells #[.complex .f64 0 0, .complex .f64 0 0, .complex .f64 0 0, .complex .f64 0 0, .complex .f64 0 0] 53 (0, 0)

/-- of's boxes: the input's size, the kernel's, the stride, the pads, the result. -/
structure O (n0 n1 k0 k1 s0 s1 p0 p1 p2 p3 : Int) (w W : World) : Prop where
  b0 : W.heap[w.heap.size]? = some (box2 n0 n1)
  b1 : W.heap[w.heap.size + 1]? = some (box2 k0 k1)
  b2 : W.heap[w.heap.size + 1 + 1]? = some (box2 s0 s1)
  b3 : W.heap[w.heap.size + 1 + 1 + 1]? = some (box4 p0 p1 p2 p3)
  b4 : W.heap[w.heap.size + 1 + 1 + 1 + 1]? = some z5
  bel : Below w.heap.size w W
section
variable {n0 n1 k0 k1 s0 s1 p0 p1 p2 p3 : Int} {w W W' : World}
theorem O.step (J : O n0 n1 k0 k1 s0 s1 p0 p1 p2 p3 w W) (hb : Below W.heap.size W W') : O n0 n1 k0 k1 s0 s1 p0 p1 p2 p3 w W' :=
  ⟨blk_below J.b0 hb, blk_below J.b1 hb, blk_below J.b2 hb, blk_below J.b3 hb, blk_below J.b4 hb, below_step J.bel hb⟩
theorem O.drewN (J : O n0 n1 k0 k1 s0 s1 p0 p1 p2 p3 w W) (m : Nat) : O n0 n1 k0 k1 s0 s1 p0 p1 p2 p3 w (W.drewN m) :=
  ⟨J.b0, J.b1, J.b2, J.b3, J.b4, ⟨J.bel.os, J.bel.tape, J.bel.output, J.bel.size, J.bel.block⟩⟩
theorem O.c00 (J : O n0 n1 k0 k1 s0 s1 p0 p1 p2 p3 w W) : W.cell? ⟨w.heap.size, 0, none⟩ = some (.int .i64 n0) := (blk_cell J.b0 0).trans rfl
theorem O.c01 (J : O n0 n1 k0 k1 s0 s1 p0 p1 p2 p3 w W) : W.cell? ⟨w.heap.size, 1, none⟩ = some (.int .i64 n1) := (blk_cell J.b0 1).trans rfl
theorem O.c10 (J : O n0 n1 k0 k1 s0 s1 p0 p1 p2 p3 w W) : W.cell? ⟨w.heap.size + 1, 0, none⟩ = some (.int .i64 k0) := (blk_cell J.b1 0).trans rfl
theorem O.c11 (J : O n0 n1 k0 k1 s0 s1 p0 p1 p2 p3 w W) : W.cell? ⟨w.heap.size + 1, 1, none⟩ = some (.int .i64 k1) := (blk_cell J.b1 1).trans rfl
theorem O.c20 (J : O n0 n1 k0 k1 s0 s1 p0 p1 p2 p3 w W) : W.cell? ⟨w.heap.size + 1 + 1, 0, none⟩ = some (.int .i64 s0) := (blk_cell J.b2 0).trans rfl
theorem O.c21 (J : O n0 n1 k0 k1 s0 s1 p0 p1 p2 p3 w W) : W.cell? ⟨w.heap.size + 1 + 1, 1, none⟩ = some (.int .i64 s1) := (blk_cell J.b2 1).trans rfl
theorem O.c30 (J : O n0 n1 k0 k1 s0 s1 p0 p1 p2 p3 w W) : W.cell? ⟨w.heap.size + 1 + 1 + 1, 0, none⟩ = some (.int .i64 p0) := (blk_cell J.b3 0).trans rfl
theorem O.c31 (J : O n0 n1 k0 k1 s0 s1 p0 p1 p2 p3 w W) : W.cell? ⟨w.heap.size + 1 + 1 + 1, 1, none⟩ = some (.int .i64 p1) := (blk_cell J.b3 1).trans rfl
theorem O.c32 (J : O n0 n1 k0 k1 s0 s1 p0 p1 p2 p3 w W) : W.cell? ⟨w.heap.size + 1 + 1 + 1, 2, none⟩ = some (.int .i64 p2) := (blk_cell J.b3 2).trans rfl
theorem O.c33 (J : O n0 n1 k0 k1 s0 s1 p0 p1 p2 p3 w W) : W.cell? ⟨w.heap.size + 1 + 1 + 1, 3, none⟩ = some (.int .i64 p3) := (blk_cell J.b3 3).trans rfl
theorem O.c40 (J : O n0 n1 k0 k1 s0 s1 p0 p1 p2 p3 w W) : W.cell? ⟨w.heap.size + 1 + 1 + 1 + 1, 0, none⟩ = some (.complex .f64 0 0) := (blk_cell J.b4 0).trans rfl
theorem O.f40 (J : O n0 n1 k0 k1 s0 s1 p0 p1 p2 p3 w W) : W.frozen? ⟨w.heap.size + 1 + 1 + 1 + 1, 0, none⟩ = false := blk_frozen J.b4 0
theorem O.c41 (J : O n0 n1 k0 k1 s0 s1 p0 p1 p2 p3 w W) : W.cell? ⟨w.heap.size + 1 + 1 + 1 + 1, 1, none⟩ = some (.complex .f64 0 0) := (blk_cell J.b4 1).trans rfl
theorem O.f41 (J : O n0 n1 k0 k1 s0 s1 p0 p1 p2 p3 w W) : W.frozen? ⟨w.heap.size + 1 + 1 + 1 + 1, 1, none⟩ = false := blk_frozen J.b4 1
theorem O.c42 (J : O n0 n1 k0 k1 s0 s1 p0 p1 p2 p3 w W) : W.cell? ⟨w.heap.size + 1 + 1 + 1 + 1, 2, none⟩ = some (.complex .f64 0 0) := (blk_cell J.b4 2).trans rfl
theorem O.f42 (J : O n0 n1 k0 k1 s0 s1 p0 p1 p2 p3 w W) : W.frozen? ⟨w.heap.size + 1 + 1 + 1 + 1, 2, none⟩ = false := blk_frozen J.b4 2
theorem O.c43 (J : O n0 n1 k0 k1 s0 s1 p0 p1 p2 p3 w W) : W.cell? ⟨w.heap.size + 1 + 1 + 1 + 1, 3, none⟩ = some (.complex .f64 0 0) := (blk_cell J.b4 3).trans rfl
theorem O.f43 (J : O n0 n1 k0 k1 s0 s1 p0 p1 p2 p3 w W) : W.frozen? ⟨w.heap.size + 1 + 1 + 1 + 1, 3, none⟩ = false := blk_frozen J.b4 3
theorem O.c44 (J : O n0 n1 k0 k1 s0 s1 p0 p1 p2 p3 w W) : W.cell? ⟨w.heap.size + 1 + 1 + 1 + 1, 4, none⟩ = some (.complex .f64 0 0) := (blk_cell J.b4 4).trans rfl
theorem O.f44 (J : O n0 n1 k0 k1 s0 s1 p0 p1 p2 p3 w W) : W.frozen? ⟨w.heap.size + 1 + 1 + 1 + 1, 4, none⟩ = false := blk_frozen J.b4 4
theorem O.start (n0 n1 k0 k1 s0 s1 p0 p1 p2 p3 : Int) (w : World) : O n0 n1 k0 k1 s0 s1 p0 p1 p2 p3 w (((((w.alloc (box2 n0 n1)).alloc (box2 k0 k1)).alloc (box2 s0 s1)).alloc (box4 p0 p1 p2 p3)).alloc z5) := by
  have e1 : (w.alloc (box2 n0 n1)).heap.size = w.heap.size + 1 := by simp
  have e2 : ((w.alloc (box2 n0 n1)).alloc (box2 k0 k1)).heap.size = w.heap.size + 1 + 1 := by simp
  have e3 : (((w.alloc (box2 n0 n1)).alloc (box2 k0 k1)).alloc (box2 s0 s1)).heap.size = w.heap.size + 1 + 1 + 1 := by simp
  have e4 : ((((w.alloc (box2 n0 n1)).alloc (box2 k0 k1)).alloc (box2 s0 s1)).alloc (box4 p0 p1 p2 p3)).heap.size = w.heap.size + 1 + 1 + 1 + 1 := by simp
  have k0' := blk_new w (box2 n0 n1)
  have k1' := blk_new (w.alloc (box2 n0 n1)) (box2 k0 k1)
  have k2' := blk_new ((w.alloc (box2 n0 n1)).alloc (box2 k0 k1)) (box2 s0 s1)
  have k3' := blk_new (((w.alloc (box2 n0 n1)).alloc (box2 k0 k1)).alloc (box2 s0 s1)) (box4 p0 p1 p2 p3)
  have k4' := blk_new ((((w.alloc (box2 n0 n1)).alloc (box2 k0 k1)).alloc (box2 s0 s1)).alloc (box4 p0 p1 p2 p3)) z5
  rw [e1] at k1'; rw [e2] at k2'; rw [e3] at k3'; rw [e4] at k4'
  exact ⟨blk_alloc (blk_alloc (blk_alloc (blk_alloc k0' _) _) _) _, blk_alloc (blk_alloc (blk_alloc k1' _) _) _, blk_alloc (blk_alloc k2' _) _, blk_alloc k3' _, k4', below_alloc (below_alloc (below_alloc (below_alloc (below_alloc (Below.refl _ _) _) _) _) _) _⟩
end

/-- good's contract, for the regions that draw. -/
theorem good_q (n l m : Int) (v : Bool) (h : decide (l ≤ n ∧ n ≤ m) = v) (w : World) (k : Nat) : Calls Try.prog 35 #[.int .i64 n, .int .i64 l, .int .i64 m] (w.drewN k) fun e w' => e = .returned (.bool v) ∧ w' = w.drewN k := (good_is n l m v h _).mono (fun _ _ h => ⟨h.1, h.2.symm⟩)

/-- There is no frame. -/
def NoFrame (w : World) (e : Ending) (w' : World) : Prop := ∃ x0 y0 x1 y1 x2 y2 x3 y3 x4 y4 : Nat, e = .returned (.tuple #[.agg #[.complex .f64 x0 y0, .complex .f64 x1 y1, .complex .f64 x2 y2, .complex .f64 x3 y3, .complex .f64 x4 y4], .bool false]) ∧ Below w.heap.size w w'

set_option maxHeartbeats 4000000 in
theorem of_no00 (n0 n1 k0 k1 s0 s1 p0 p1 p2 p3 : Int) (w : World) (t00 : decide (1 ≤ n0 ∧ n0 ≤ 64) = false) : Calls Try.prog 29 #[.agg #[.int .i64 n0, .int .i64 n1], .agg #[.int .i64 k0, .int .i64 k1], .agg #[.int .i64 s0, .int .i64 s1], .agg #[.int .i64 p0, .int .i64 p1, .int .i64 p2, .int .i64 p3]] w (NoFrame w) := by
  have J := Lib.hid (O.start n0 n1 k0 k1 s0 s1 p0 p1 p2 p3 w)
  go_enter Try.func29, Try.ntmps29
  go_wp2
  generalize ((((w.alloc (box2 n0 n1)).alloc (box2 k0 k1)).alloc (box2 s0 s1)).alloc (box4 p0 p1 p2 p3)).alloc z5 = u0 at *
  have c00 := J.out.c00
  have c01 := J.out.c01
  have c10 := J.out.c10
  have c11 := J.out.c11
  have c20 := J.out.c20
  have c21 := J.out.c21
  have c30 := J.out.c30
  have c31 := J.out.c31
  have c32 := J.out.c32
  have c33 := J.out.c33
  have c40 := J.out.c40
  have c41 := J.out.c41
  have c42 := J.out.c42
  have c43 := J.out.c43
  have c44 := J.out.c44
  have f40 := J.out.f40
  have f41 := J.out.f41
  have f42 := J.out.f42
  have f43 := J.out.f43
  have f44 := J.out.f44
  refine wp_loop_rounds 3 ?_
  rw [rounds_succ]
  go_wp2_with (first | (go_at_call_of 35 (Value.int .i64 n0); refine (good_is n0 1 64 false t00 _).mono ?_; rintro e w' ⟨rfl, rfl⟩))
  refine bodyPost_ret (results_ct rfl _ _ (w.heap.size + 1 + 1 + 1 + 1) 53 #[.complex .f64 0 0, .complex .f64 0 0, .complex .f64 0 0, .complex .f64 0 0, .complex .f64 0 0] (0, 0) _ rfl (blk_put (blk_put (blk_put (blk_put (blk_put J.out.b4 0 _ rfl) 1 _ rfl) 2 _ rfl) 3 _ rfl) 4 _ rfl) Try.underlying53 rfl (by kernel_rfl)) rfl ?_
  exact ⟨_, _, _, _, _, _, _, _, _, _, rfl, below_set (below_set (below_set (below_set (below_set J.out.bel (by omega)) (by omega)) (by omega)) (by omega)) (by omega)⟩

set_option maxHeartbeats 4000000 in
theorem of_no01 (n0 n1 k0 k1 s0 s1 p0 p1 p2 p3 : Int) (w : World) (t00 : decide (1 ≤ n0 ∧ n0 ≤ 64) = true) (t01 : decide (1 ≤ k0 ∧ k0 ≤ 8) = false) : Calls Try.prog 29 #[.agg #[.int .i64 n0, .int .i64 n1], .agg #[.int .i64 k0, .int .i64 k1], .agg #[.int .i64 s0, .int .i64 s1], .agg #[.int .i64 p0, .int .i64 p1, .int .i64 p2, .int .i64 p3]] w (NoFrame w) := by
  have J := Lib.hid (O.start n0 n1 k0 k1 s0 s1 p0 p1 p2 p3 w)
  go_enter Try.func29, Try.ntmps29
  go_wp2
  generalize ((((w.alloc (box2 n0 n1)).alloc (box2 k0 k1)).alloc (box2 s0 s1)).alloc (box4 p0 p1 p2 p3)).alloc z5 = u0 at *
  have c00 := J.out.c00
  have c01 := J.out.c01
  have c10 := J.out.c10
  have c11 := J.out.c11
  have c20 := J.out.c20
  have c21 := J.out.c21
  have c30 := J.out.c30
  have c31 := J.out.c31
  have c32 := J.out.c32
  have c33 := J.out.c33
  have c40 := J.out.c40
  have c41 := J.out.c41
  have c42 := J.out.c42
  have c43 := J.out.c43
  have c44 := J.out.c44
  have f40 := J.out.f40
  have f41 := J.out.f41
  have f42 := J.out.f42
  have f43 := J.out.f43
  have f44 := J.out.f44
  refine wp_loop_rounds 3 ?_
  rw [rounds_succ]
  go_wp2_with (first | (go_at_call_of 35 (Value.int .i64 n0); refine (good_is n0 1 64 true t00 _).mono ?_; rintro e w' ⟨rfl, rfl⟩) | (go_at_call_of 35 (Value.int .i64 k0); refine (good_is k0 1 8 false t01 _).mono ?_; rintro e w' ⟨rfl, rfl⟩))
  refine bodyPost_ret (results_ct rfl _ _ (w.heap.size + 1 + 1 + 1 + 1) 53 #[.complex .f64 0 0, .complex .f64 0 0, .complex .f64 0 0, .complex .f64 0 0, .complex .f64 0 0] (0, 0) _ rfl (blk_put (blk_put (blk_put (blk_put (blk_put J.out.b4 0 _ rfl) 1 _ rfl) 2 _ rfl) 3 _ rfl) 4 _ rfl) Try.underlying53 rfl (by kernel_rfl)) rfl ?_
  exact ⟨_, _, _, _, _, _, _, _, _, _, rfl, below_set (below_set (below_set (below_set (below_set J.out.bel (by omega)) (by omega)) (by omega)) (by omega)) (by omega)⟩

set_option maxHeartbeats 4000000 in
theorem of_no02 (n0 n1 k0 k1 s0 s1 p0 p1 p2 p3 : Int) (w : World) (t00 : decide (1 ≤ n0 ∧ n0 ≤ 64) = true) (t01 : decide (1 ≤ k0 ∧ k0 ≤ 8) = true) (t02 : decide (1 ≤ s0 ∧ s0 ≤ 8) = false) : Calls Try.prog 29 #[.agg #[.int .i64 n0, .int .i64 n1], .agg #[.int .i64 k0, .int .i64 k1], .agg #[.int .i64 s0, .int .i64 s1], .agg #[.int .i64 p0, .int .i64 p1, .int .i64 p2, .int .i64 p3]] w (NoFrame w) := by
  have J := Lib.hid (O.start n0 n1 k0 k1 s0 s1 p0 p1 p2 p3 w)
  go_enter Try.func29, Try.ntmps29
  go_wp2
  generalize ((((w.alloc (box2 n0 n1)).alloc (box2 k0 k1)).alloc (box2 s0 s1)).alloc (box4 p0 p1 p2 p3)).alloc z5 = u0 at *
  have c00 := J.out.c00
  have c01 := J.out.c01
  have c10 := J.out.c10
  have c11 := J.out.c11
  have c20 := J.out.c20
  have c21 := J.out.c21
  have c30 := J.out.c30
  have c31 := J.out.c31
  have c32 := J.out.c32
  have c33 := J.out.c33
  have c40 := J.out.c40
  have c41 := J.out.c41
  have c42 := J.out.c42
  have c43 := J.out.c43
  have c44 := J.out.c44
  have f40 := J.out.f40
  have f41 := J.out.f41
  have f42 := J.out.f42
  have f43 := J.out.f43
  have f44 := J.out.f44
  refine wp_loop_rounds 3 ?_
  rw [rounds_succ]
  go_wp2_with (first | (go_at_call_of 35 (Value.int .i64 n0); refine (good_is n0 1 64 true t00 _).mono ?_; rintro e w' ⟨rfl, rfl⟩) | (go_at_call_of 35 (Value.int .i64 k0); refine (good_is k0 1 8 true t01 _).mono ?_; rintro e w' ⟨rfl, rfl⟩) | (go_at_call_of 35 (Value.int .i64 s0); refine (good_is s0 1 8 false t02 _).mono ?_; rintro e w' ⟨rfl, rfl⟩))
  refine bodyPost_ret (results_ct rfl _ _ (w.heap.size + 1 + 1 + 1 + 1) 53 #[.complex .f64 0 0, .complex .f64 0 0, .complex .f64 0 0, .complex .f64 0 0, .complex .f64 0 0] (0, 0) _ rfl (blk_put (blk_put (blk_put (blk_put (blk_put J.out.b4 0 _ rfl) 1 _ rfl) 2 _ rfl) 3 _ rfl) 4 _ rfl) Try.underlying53 rfl (by kernel_rfl)) rfl ?_
  exact ⟨_, _, _, _, _, _, _, _, _, _, rfl, below_set (below_set (below_set (below_set (below_set J.out.bel (by omega)) (by omega)) (by omega)) (by omega)) (by omega)⟩

set_option maxHeartbeats 4000000 in
theorem of_no03 (n0 n1 k0 k1 s0 s1 p0 p1 p2 p3 : Int) (w : World) (t00 : decide (1 ≤ n0 ∧ n0 ≤ 64) = true) (t01 : decide (1 ≤ k0 ∧ k0 ≤ 8) = true) (t02 : decide (1 ≤ s0 ∧ s0 ≤ 8) = true) (t03 : decide (0 ≤ p0 ∧ p0 ≤ (k0 - 1)) = false) : Calls Try.prog 29 #[.agg #[.int .i64 n0, .int .i64 n1], .agg #[.int .i64 k0, .int .i64 k1], .agg #[.int .i64 s0, .int .i64 s1], .agg #[.int .i64 p0, .int .i64 p1, .int .i64 p2, .int .i64 p3]] w (NoFrame w) := by
  have J := Lib.hid (O.start n0 n1 k0 k1 s0 s1 p0 p1 p2 p3 w)
  have y0 : IntKind.i64.wrap (k0 - 1) = k0 - 1 := IntWalk.i64_in _ (by have := of_decide_eq_true t01; omega)
  go_enter Try.func29, Try.ntmps29
  go_wp2
  generalize ((((w.alloc (box2 n0 n1)).alloc (box2 k0 k1)).alloc (box2 s0 s1)).alloc (box4 p0 p1 p2 p3)).alloc z5 = u0 at *
  have c00 := J.out.c00
  have c01 := J.out.c01
  have c10 := J.out.c10
  have c11 := J.out.c11
  have c20 := J.out.c20
  have c21 := J.out.c21
  have c30 := J.out.c30
  have c31 := J.out.c31
  have c32 := J.out.c32
  have c33 := J.out.c33
  have c40 := J.out.c40
  have c41 := J.out.c41
  have c42 := J.out.c42
  have c43 := J.out.c43
  have c44 := J.out.c44
  have f40 := J.out.f40
  have f41 := J.out.f41
  have f42 := J.out.f42
  have f43 := J.out.f43
  have f44 := J.out.f44
  refine wp_loop_rounds 3 ?_
  rw [rounds_succ]
  go_wp2_with (first | (go_at_call_of 35 (Value.int .i64 n0); refine (good_is n0 1 64 true t00 _).mono ?_; rintro e w' ⟨rfl, rfl⟩) | (go_at_call_of 35 (Value.int .i64 k0); refine (good_is k0 1 8 true t01 _).mono ?_; rintro e w' ⟨rfl, rfl⟩) | (go_at_call_of 35 (Value.int .i64 s0); refine (good_is s0 1 8 true t02 _).mono ?_; rintro e w' ⟨rfl, rfl⟩))
  go_quiet (first | (go_at_call_of 35 (Value.int .i64 p0); exact Calls.quiet_of_same (good_q p0 0 (k0 - 1) false t03 _ _)))
  have J2 := Lib.hid (J.out.drewN nq)
  clear J c00 c01 c10 c11 c20 c21 c30 c31 c32 c33 c40 c41 c42 c43 c44 f40 f41 f42 f43 f44
  have J := J2
  clear J2
  generalize u0.drewN nq = u1 at *
  have c00 := J.out.c00
  have c01 := J.out.c01
  have c10 := J.out.c10
  have c11 := J.out.c11
  have c20 := J.out.c20
  have c21 := J.out.c21
  have c30 := J.out.c30
  have c31 := J.out.c31
  have c32 := J.out.c32
  have c33 := J.out.c33
  have c40 := J.out.c40
  have c41 := J.out.c41
  have c42 := J.out.c42
  have c43 := J.out.c43
  have c44 := J.out.c44
  have f40 := J.out.f40
  have f41 := J.out.f41
  have f42 := J.out.f42
  have f43 := J.out.f43
  have f44 := J.out.f44
  go_wp2
  refine bodyPost_ret (results_ct rfl _ _ (w.heap.size + 1 + 1 + 1 + 1) 53 #[.complex .f64 0 0, .complex .f64 0 0, .complex .f64 0 0, .complex .f64 0 0, .complex .f64 0 0] (0, 0) _ rfl (blk_put (blk_put (blk_put (blk_put (blk_put J.out.b4 0 _ rfl) 1 _ rfl) 2 _ rfl) 3 _ rfl) 4 _ rfl) Try.underlying53 rfl (by kernel_rfl)) rfl ?_
  exact ⟨_, _, _, _, _, _, _, _, _, _, rfl, below_set (below_set (below_set (below_set (below_set J.out.bel (by omega)) (by omega)) (by omega)) (by omega)) (by omega)⟩

set_option maxHeartbeats 4000000 in
theorem of_no04 (n0 n1 k0 k1 s0 s1 p0 p1 p2 p3 : Int) (w : World) (t00 : decide (1 ≤ n0 ∧ n0 ≤ 64) = true) (t01 : decide (1 ≤ k0 ∧ k0 ≤ 8) = true) (t02 : decide (1 ≤ s0 ∧ s0 ≤ 8) = true) (t03 : decide (0 ≤ p0 ∧ p0 ≤ (k0 - 1)) = true) (t04 : decide (0 ≤ p2 ∧ p2 ≤ (k0 - 1)) = false) : Calls Try.prog 29 #[.agg #[.int .i64 n0, .int .i64 n1], .agg #[.int .i64 k0, .int .i64 k1], .agg #[.int .i64 s0, .int .i64 s1], .agg #[.int .i64 p0, .int .i64 p1, .int .i64 p2, .int .i64 p3]] w (NoFrame w) := by
  have J := Lib.hid (O.start n0 n1 k0 k1 s0 s1 p0 p1 p2 p3 w)
  have y0 : IntKind.i64.wrap (k0 - 1) = k0 - 1 := IntWalk.i64_in _ (by have := of_decide_eq_true t01; omega)
  go_enter Try.func29, Try.ntmps29
  go_wp2
  generalize ((((w.alloc (box2 n0 n1)).alloc (box2 k0 k1)).alloc (box2 s0 s1)).alloc (box4 p0 p1 p2 p3)).alloc z5 = u0 at *
  have c00 := J.out.c00
  have c01 := J.out.c01
  have c10 := J.out.c10
  have c11 := J.out.c11
  have c20 := J.out.c20
  have c21 := J.out.c21
  have c30 := J.out.c30
  have c31 := J.out.c31
  have c32 := J.out.c32
  have c33 := J.out.c33
  have c40 := J.out.c40
  have c41 := J.out.c41
  have c42 := J.out.c42
  have c43 := J.out.c43
  have c44 := J.out.c44
  have f40 := J.out.f40
  have f41 := J.out.f41
  have f42 := J.out.f42
  have f43 := J.out.f43
  have f44 := J.out.f44
  refine wp_loop_rounds 3 ?_
  rw [rounds_succ]
  go_wp2_with (first | (go_at_call_of 35 (Value.int .i64 n0); refine (good_is n0 1 64 true t00 _).mono ?_; rintro e w' ⟨rfl, rfl⟩) | (go_at_call_of 35 (Value.int .i64 k0); refine (good_is k0 1 8 true t01 _).mono ?_; rintro e w' ⟨rfl, rfl⟩) | (go_at_call_of 35 (Value.int .i64 s0); refine (good_is s0 1 8 true t02 _).mono ?_; rintro e w' ⟨rfl, rfl⟩))
  go_quiet (first | (go_at_call_of 35 (Value.int .i64 p0); exact Calls.quiet_of_same (good_q p0 0 (k0 - 1) true t03 _ _)) | (go_at_call_of 35 (Value.int .i64 p2); exact Calls.quiet_of_same (good_q p2 0 (k0 - 1) false t04 _ _)))
  have J2 := Lib.hid (J.out.drewN nq)
  clear J c00 c01 c10 c11 c20 c21 c30 c31 c32 c33 c40 c41 c42 c43 c44 f40 f41 f42 f43 f44
  have J := J2
  clear J2
  generalize u0.drewN nq = u1 at *
  have c00 := J.out.c00
  have c01 := J.out.c01
  have c10 := J.out.c10
  have c11 := J.out.c11
  have c20 := J.out.c20
  have c21 := J.out.c21
  have c30 := J.out.c30
  have c31 := J.out.c31
  have c32 := J.out.c32
  have c33 := J.out.c33
  have c40 := J.out.c40
  have c41 := J.out.c41
  have c42 := J.out.c42
  have c43 := J.out.c43
  have c44 := J.out.c44
  have f40 := J.out.f40
  have f41 := J.out.f41
  have f42 := J.out.f42
  have f43 := J.out.f43
  have f44 := J.out.f44
  go_wp2
  refine bodyPost_ret (results_ct rfl _ _ (w.heap.size + 1 + 1 + 1 + 1) 53 #[.complex .f64 0 0, .complex .f64 0 0, .complex .f64 0 0, .complex .f64 0 0, .complex .f64 0 0] (0, 0) _ rfl (blk_put (blk_put (blk_put (blk_put (blk_put J.out.b4 0 _ rfl) 1 _ rfl) 2 _ rfl) 3 _ rfl) 4 _ rfl) Try.underlying53 rfl (by kernel_rfl)) rfl ?_
  exact ⟨_, _, _, _, _, _, _, _, _, _, rfl, below_set (below_set (below_set (below_set (below_set J.out.bel (by omega)) (by omega)) (by omega)) (by omega)) (by omega)⟩

set_option maxHeartbeats 4000000 in
theorem of_no10 (n0 n1 k0 k1 s0 s1 p0 p1 p2 p3 : Int) (w : World) (t00 : decide (1 ≤ n0 ∧ n0 ≤ 64) = true) (t01 : decide (1 ≤ k0 ∧ k0 ≤ 8) = true) (t02 : decide (1 ≤ s0 ∧ s0 ≤ 8) = true) (t03 : decide (0 ≤ p0 ∧ p0 ≤ (k0 - 1)) = true) (t04 : decide (0 ≤ p2 ∧ p2 ≤ (k0 - 1)) = true) (t10 : decide (1 ≤ n1 ∧ n1 ≤ 64) = false) : Calls Try.prog 29 #[.agg #[.int .i64 n0, .int .i64 n1], .agg #[.int .i64 k0, .int .i64 k1], .agg #[.int .i64 s0, .int .i64 s1], .agg #[.int .i64 p0, .int .i64 p1, .int .i64 p2, .int .i64 p3]] w (NoFrame w) := by
  have J := Lib.hid (O.start n0 n1 k0 k1 s0 s1 p0 p1 p2 p3 w)
  have y0 : IntKind.i64.wrap (k0 - 1) = k0 - 1 := IntWalk.i64_in _ (by have := of_decide_eq_true t01; omega)
  go_enter Try.func29, Try.ntmps29
  go_wp2
  generalize ((((w.alloc (box2 n0 n1)).alloc (box2 k0 k1)).alloc (box2 s0 s1)).alloc (box4 p0 p1 p2 p3)).alloc z5 = u0 at *
  have c00 := J.out.c00
  have c01 := J.out.c01
  have c10 := J.out.c10
  have c11 := J.out.c11
  have c20 := J.out.c20
  have c21 := J.out.c21
  have c30 := J.out.c30
  have c31 := J.out.c31
  have c32 := J.out.c32
  have c33 := J.out.c33
  have c40 := J.out.c40
  have c41 := J.out.c41
  have c42 := J.out.c42
  have c43 := J.out.c43
  have c44 := J.out.c44
  have f40 := J.out.f40
  have f41 := J.out.f41
  have f42 := J.out.f42
  have f43 := J.out.f43
  have f44 := J.out.f44
  refine wp_loop_rounds 3 ?_
  rw [rounds_succ]
  go_wp2_with (first | (go_at_call_of 35 (Value.int .i64 n0); refine (good_is n0 1 64 true t00 _).mono ?_; rintro e w' ⟨rfl, rfl⟩) | (go_at_call_of 35 (Value.int .i64 k0); refine (good_is k0 1 8 true t01 _).mono ?_; rintro e w' ⟨rfl, rfl⟩) | (go_at_call_of 35 (Value.int .i64 s0); refine (good_is s0 1 8 true t02 _).mono ?_; rintro e w' ⟨rfl, rfl⟩))
  go_quiet (first | (go_at_call_of 35 (Value.int .i64 p0); exact Calls.quiet_of_same (good_q p0 0 (k0 - 1) true t03 _ _)) | (go_at_call_of 35 (Value.int .i64 p2); exact Calls.quiet_of_same (good_q p2 0 (k0 - 1) true t04 _ _)))
  have J2 := Lib.hid (J.out.drewN nq)
  clear J c00 c01 c10 c11 c20 c21 c30 c31 c32 c33 c40 c41 c42 c43 c44 f40 f41 f42 f43 f44
  have J := J2
  clear J2
  generalize u0.drewN nq = u1 at *
  have c00 := J.out.c00
  have c01 := J.out.c01
  have c10 := J.out.c10
  have c11 := J.out.c11
  have c20 := J.out.c20
  have c21 := J.out.c21
  have c30 := J.out.c30
  have c31 := J.out.c31
  have c32 := J.out.c32
  have c33 := J.out.c33
  have c40 := J.out.c40
  have c41 := J.out.c41
  have c42 := J.out.c42
  have c43 := J.out.c43
  have c44 := J.out.c44
  have f40 := J.out.f40
  have f41 := J.out.f41
  have f42 := J.out.f42
  have f43 := J.out.f43
  have f44 := J.out.f44
  go_wp2
  rw [rounds_succ]
  go_wp2_with (first | (go_at_call_of 35 (Value.int .i64 n1); refine (good_is n1 1 64 false t10 _).mono ?_; rintro e w' ⟨rfl, rfl⟩))
  refine bodyPost_ret (results_ct rfl _ _ (w.heap.size + 1 + 1 + 1 + 1) 53 #[.complex .f64 0 0, .complex .f64 0 0, .complex .f64 0 0, .complex .f64 0 0, .complex .f64 0 0] (0, 0) _ rfl (blk_put (blk_put (blk_put (blk_put (blk_put J.out.b4 0 _ rfl) 1 _ rfl) 2 _ rfl) 3 _ rfl) 4 _ rfl) Try.underlying53 rfl (by kernel_rfl)) rfl ?_
  exact ⟨_, _, _, _, _, _, _, _, _, _, rfl, below_set (below_set (below_set (below_set (below_set J.out.bel (by omega)) (by omega)) (by omega)) (by omega)) (by omega)⟩

set_option maxHeartbeats 4000000 in
theorem of_no11 (n0 n1 k0 k1 s0 s1 p0 p1 p2 p3 : Int) (w : World) (t00 : decide (1 ≤ n0 ∧ n0 ≤ 64) = true) (t01 : decide (1 ≤ k0 ∧ k0 ≤ 8) = true) (t02 : decide (1 ≤ s0 ∧ s0 ≤ 8) = true) (t03 : decide (0 ≤ p0 ∧ p0 ≤ (k0 - 1)) = true) (t04 : decide (0 ≤ p2 ∧ p2 ≤ (k0 - 1)) = true) (t10 : decide (1 ≤ n1 ∧ n1 ≤ 64) = true) (t11 : decide (1 ≤ k1 ∧ k1 ≤ 8) = false) : Calls Try.prog 29 #[.agg #[.int .i64 n0, .int .i64 n1], .agg #[.int .i64 k0, .int .i64 k1], .agg #[.int .i64 s0, .int .i64 s1], .agg #[.int .i64 p0, .int .i64 p1, .int .i64 p2, .int .i64 p3]] w (NoFrame w) := by
  have J := Lib.hid (O.start n0 n1 k0 k1 s0 s1 p0 p1 p2 p3 w)
  have y0 : IntKind.i64.wrap (k0 - 1) = k0 - 1 := IntWalk.i64_in _ (by have := of_decide_eq_true t01; omega)
  go_enter Try.func29, Try.ntmps29
  go_wp2
  generalize ((((w.alloc (box2 n0 n1)).alloc (box2 k0 k1)).alloc (box2 s0 s1)).alloc (box4 p0 p1 p2 p3)).alloc z5 = u0 at *
  have c00 := J.out.c00
  have c01 := J.out.c01
  have c10 := J.out.c10
  have c11 := J.out.c11
  have c20 := J.out.c20
  have c21 := J.out.c21
  have c30 := J.out.c30
  have c31 := J.out.c31
  have c32 := J.out.c32
  have c33 := J.out.c33
  have c40 := J.out.c40
  have c41 := J.out.c41
  have c42 := J.out.c42
  have c43 := J.out.c43
  have c44 := J.out.c44
  have f40 := J.out.f40
  have f41 := J.out.f41
  have f42 := J.out.f42
  have f43 := J.out.f43
  have f44 := J.out.f44
  refine wp_loop_rounds 3 ?_
  rw [rounds_succ]
  go_wp2_with (first | (go_at_call_of 35 (Value.int .i64 n0); refine (good_is n0 1 64 true t00 _).mono ?_; rintro e w' ⟨rfl, rfl⟩) | (go_at_call_of 35 (Value.int .i64 k0); refine (good_is k0 1 8 true t01 _).mono ?_; rintro e w' ⟨rfl, rfl⟩) | (go_at_call_of 35 (Value.int .i64 s0); refine (good_is s0 1 8 true t02 _).mono ?_; rintro e w' ⟨rfl, rfl⟩))
  go_quiet (first | (go_at_call_of 35 (Value.int .i64 p0); exact Calls.quiet_of_same (good_q p0 0 (k0 - 1) true t03 _ _)) | (go_at_call_of 35 (Value.int .i64 p2); exact Calls.quiet_of_same (good_q p2 0 (k0 - 1) true t04 _ _)))
  have J2 := Lib.hid (J.out.drewN nq)
  clear J c00 c01 c10 c11 c20 c21 c30 c31 c32 c33 c40 c41 c42 c43 c44 f40 f41 f42 f43 f44
  have J := J2
  clear J2
  generalize u0.drewN nq = u1 at *
  have c00 := J.out.c00
  have c01 := J.out.c01
  have c10 := J.out.c10
  have c11 := J.out.c11
  have c20 := J.out.c20
  have c21 := J.out.c21
  have c30 := J.out.c30
  have c31 := J.out.c31
  have c32 := J.out.c32
  have c33 := J.out.c33
  have c40 := J.out.c40
  have c41 := J.out.c41
  have c42 := J.out.c42
  have c43 := J.out.c43
  have c44 := J.out.c44
  have f40 := J.out.f40
  have f41 := J.out.f41
  have f42 := J.out.f42
  have f43 := J.out.f43
  have f44 := J.out.f44
  go_wp2
  rw [rounds_succ]
  go_wp2_with (first | (go_at_call_of 35 (Value.int .i64 n1); refine (good_is n1 1 64 true t10 _).mono ?_; rintro e w' ⟨rfl, rfl⟩) | (go_at_call_of 35 (Value.int .i64 k1); refine (good_is k1 1 8 false t11 _).mono ?_; rintro e w' ⟨rfl, rfl⟩))
  refine bodyPost_ret (results_ct rfl _ _ (w.heap.size + 1 + 1 + 1 + 1) 53 #[.complex .f64 0 0, .complex .f64 0 0, .complex .f64 0 0, .complex .f64 0 0, .complex .f64 0 0] (0, 0) _ rfl (blk_put (blk_put (blk_put (blk_put (blk_put J.out.b4 0 _ rfl) 1 _ rfl) 2 _ rfl) 3 _ rfl) 4 _ rfl) Try.underlying53 rfl (by kernel_rfl)) rfl ?_
  exact ⟨_, _, _, _, _, _, _, _, _, _, rfl, below_set (below_set (below_set (below_set (below_set J.out.bel (by omega)) (by omega)) (by omega)) (by omega)) (by omega)⟩

set_option maxHeartbeats 4000000 in
theorem of_no12 (n0 n1 k0 k1 s0 s1 p0 p1 p2 p3 : Int) (w : World) (t00 : decide (1 ≤ n0 ∧ n0 ≤ 64) = true) (t01 : decide (1 ≤ k0 ∧ k0 ≤ 8) = true) (t02 : decide (1 ≤ s0 ∧ s0 ≤ 8) = true) (t03 : decide (0 ≤ p0 ∧ p0 ≤ (k0 - 1)) = true) (t04 : decide (0 ≤ p2 ∧ p2 ≤ (k0 - 1)) = true) (t10 : decide (1 ≤ n1 ∧ n1 ≤ 64) = true) (t11 : decide (1 ≤ k1 ∧ k1 ≤ 8) = true) (t12 : decide (1 ≤ s1 ∧ s1 ≤ 8) = false) : Calls Try.prog 29 #[.agg #[.int .i64 n0, .int .i64 n1], .agg #[.int .i64 k0, .int .i64 k1], .agg #[.int .i64 s0, .int .i64 s1], .agg #[.int .i64 p0, .int .i64 p1, .int .i64 p2, .int .i64 p3]] w (NoFrame w) := by
  have J := Lib.hid (O.start n0 n1 k0 k1 s0 s1 p0 p1 p2 p3 w)
  have y0 : IntKind.i64.wrap (k0 - 1) = k0 - 1 := IntWalk.i64_in _ (by have := of_decide_eq_true t01; omega)
  go_enter Try.func29, Try.ntmps29
  go_wp2
  generalize ((((w.alloc (box2 n0 n1)).alloc (box2 k0 k1)).alloc (box2 s0 s1)).alloc (box4 p0 p1 p2 p3)).alloc z5 = u0 at *
  have c00 := J.out.c00
  have c01 := J.out.c01
  have c10 := J.out.c10
  have c11 := J.out.c11
  have c20 := J.out.c20
  have c21 := J.out.c21
  have c30 := J.out.c30
  have c31 := J.out.c31
  have c32 := J.out.c32
  have c33 := J.out.c33
  have c40 := J.out.c40
  have c41 := J.out.c41
  have c42 := J.out.c42
  have c43 := J.out.c43
  have c44 := J.out.c44
  have f40 := J.out.f40
  have f41 := J.out.f41
  have f42 := J.out.f42
  have f43 := J.out.f43
  have f44 := J.out.f44
  refine wp_loop_rounds 3 ?_
  rw [rounds_succ]
  go_wp2_with (first | (go_at_call_of 35 (Value.int .i64 n0); refine (good_is n0 1 64 true t00 _).mono ?_; rintro e w' ⟨rfl, rfl⟩) | (go_at_call_of 35 (Value.int .i64 k0); refine (good_is k0 1 8 true t01 _).mono ?_; rintro e w' ⟨rfl, rfl⟩) | (go_at_call_of 35 (Value.int .i64 s0); refine (good_is s0 1 8 true t02 _).mono ?_; rintro e w' ⟨rfl, rfl⟩))
  go_quiet (first | (go_at_call_of 35 (Value.int .i64 p0); exact Calls.quiet_of_same (good_q p0 0 (k0 - 1) true t03 _ _)) | (go_at_call_of 35 (Value.int .i64 p2); exact Calls.quiet_of_same (good_q p2 0 (k0 - 1) true t04 _ _)))
  have J2 := Lib.hid (J.out.drewN nq)
  clear J c00 c01 c10 c11 c20 c21 c30 c31 c32 c33 c40 c41 c42 c43 c44 f40 f41 f42 f43 f44
  have J := J2
  clear J2
  generalize u0.drewN nq = u1 at *
  have c00 := J.out.c00
  have c01 := J.out.c01
  have c10 := J.out.c10
  have c11 := J.out.c11
  have c20 := J.out.c20
  have c21 := J.out.c21
  have c30 := J.out.c30
  have c31 := J.out.c31
  have c32 := J.out.c32
  have c33 := J.out.c33
  have c40 := J.out.c40
  have c41 := J.out.c41
  have c42 := J.out.c42
  have c43 := J.out.c43
  have c44 := J.out.c44
  have f40 := J.out.f40
  have f41 := J.out.f41
  have f42 := J.out.f42
  have f43 := J.out.f43
  have f44 := J.out.f44
  go_wp2
  rw [rounds_succ]
  go_wp2_with (first | (go_at_call_of 35 (Value.int .i64 n1); refine (good_is n1 1 64 true t10 _).mono ?_; rintro e w' ⟨rfl, rfl⟩) | (go_at_call_of 35 (Value.int .i64 k1); refine (good_is k1 1 8 true t11 _).mono ?_; rintro e w' ⟨rfl, rfl⟩) | (go_at_call_of 35 (Value.int .i64 s1); refine (good_is s1 1 8 false t12 _).mono ?_; rintro e w' ⟨rfl, rfl⟩))
  refine bodyPost_ret (results_ct rfl _ _ (w.heap.size + 1 + 1 + 1 + 1) 53 #[.complex .f64 0 0, .complex .f64 0 0, .complex .f64 0 0, .complex .f64 0 0, .complex .f64 0 0] (0, 0) _ rfl (blk_put (blk_put (blk_put (blk_put (blk_put J.out.b4 0 _ rfl) 1 _ rfl) 2 _ rfl) 3 _ rfl) 4 _ rfl) Try.underlying53 rfl (by kernel_rfl)) rfl ?_
  exact ⟨_, _, _, _, _, _, _, _, _, _, rfl, below_set (below_set (below_set (below_set (below_set J.out.bel (by omega)) (by omega)) (by omega)) (by omega)) (by omega)⟩

set_option maxHeartbeats 4000000 in
theorem of_no13 (n0 n1 k0 k1 s0 s1 p0 p1 p2 p3 : Int) (w : World) (t00 : decide (1 ≤ n0 ∧ n0 ≤ 64) = true) (t01 : decide (1 ≤ k0 ∧ k0 ≤ 8) = true) (t02 : decide (1 ≤ s0 ∧ s0 ≤ 8) = true) (t03 : decide (0 ≤ p0 ∧ p0 ≤ (k0 - 1)) = true) (t04 : decide (0 ≤ p2 ∧ p2 ≤ (k0 - 1)) = true) (t10 : decide (1 ≤ n1 ∧ n1 ≤ 64) = true) (t11 : decide (1 ≤ k1 ∧ k1 ≤ 8) = true) (t12 : decide (1 ≤ s1 ∧ s1 ≤ 8) = true) (t13 : decide (0 ≤ p1 ∧ p1 ≤ (k1 - 1)) = false) : Calls Try.prog 29 #[.agg #[.int .i64 n0, .int .i64 n1], .agg #[.int .i64 k0, .int .i64 k1], .agg #[.int .i64 s0, .int .i64 s1], .agg #[.int .i64 p0, .int .i64 p1, .int .i64 p2, .int .i64 p3]] w (NoFrame w) := by
  have J := Lib.hid (O.start n0 n1 k0 k1 s0 s1 p0 p1 p2 p3 w)
  have y0 : IntKind.i64.wrap (k0 - 1) = k0 - 1 := IntWalk.i64_in _ (by have := of_decide_eq_true t01; omega)
  have y1 : IntKind.i64.wrap (k1 - 1) = k1 - 1 := IntWalk.i64_in _ (by have := of_decide_eq_true t11; omega)
  go_enter Try.func29, Try.ntmps29
  go_wp2
  generalize ((((w.alloc (box2 n0 n1)).alloc (box2 k0 k1)).alloc (box2 s0 s1)).alloc (box4 p0 p1 p2 p3)).alloc z5 = u0 at *
  have c00 := J.out.c00
  have c01 := J.out.c01
  have c10 := J.out.c10
  have c11 := J.out.c11
  have c20 := J.out.c20
  have c21 := J.out.c21
  have c30 := J.out.c30
  have c31 := J.out.c31
  have c32 := J.out.c32
  have c33 := J.out.c33
  have c40 := J.out.c40
  have c41 := J.out.c41
  have c42 := J.out.c42
  have c43 := J.out.c43
  have c44 := J.out.c44
  have f40 := J.out.f40
  have f41 := J.out.f41
  have f42 := J.out.f42
  have f43 := J.out.f43
  have f44 := J.out.f44
  refine wp_loop_rounds 3 ?_
  rw [rounds_succ]
  go_wp2_with (first | (go_at_call_of 35 (Value.int .i64 n0); refine (good_is n0 1 64 true t00 _).mono ?_; rintro e w' ⟨rfl, rfl⟩) | (go_at_call_of 35 (Value.int .i64 k0); refine (good_is k0 1 8 true t01 _).mono ?_; rintro e w' ⟨rfl, rfl⟩) | (go_at_call_of 35 (Value.int .i64 s0); refine (good_is s0 1 8 true t02 _).mono ?_; rintro e w' ⟨rfl, rfl⟩))
  go_quiet (first | (go_at_call_of 35 (Value.int .i64 p0); exact Calls.quiet_of_same (good_q p0 0 (k0 - 1) true t03 _ _)) | (go_at_call_of 35 (Value.int .i64 p2); exact Calls.quiet_of_same (good_q p2 0 (k0 - 1) true t04 _ _)))
  have J2 := Lib.hid (J.out.drewN nq)
  clear J c00 c01 c10 c11 c20 c21 c30 c31 c32 c33 c40 c41 c42 c43 c44 f40 f41 f42 f43 f44
  have J := J2
  clear J2
  generalize u0.drewN nq = u1 at *
  have c00 := J.out.c00
  have c01 := J.out.c01
  have c10 := J.out.c10
  have c11 := J.out.c11
  have c20 := J.out.c20
  have c21 := J.out.c21
  have c30 := J.out.c30
  have c31 := J.out.c31
  have c32 := J.out.c32
  have c33 := J.out.c33
  have c40 := J.out.c40
  have c41 := J.out.c41
  have c42 := J.out.c42
  have c43 := J.out.c43
  have c44 := J.out.c44
  have f40 := J.out.f40
  have f41 := J.out.f41
  have f42 := J.out.f42
  have f43 := J.out.f43
  have f44 := J.out.f44
  go_wp2
  rw [rounds_succ]
  go_wp2_with (first | (go_at_call_of 35 (Value.int .i64 n1); refine (good_is n1 1 64 true t10 _).mono ?_; rintro e w' ⟨rfl, rfl⟩) | (go_at_call_of 35 (Value.int .i64 k1); refine (good_is k1 1 8 true t11 _).mono ?_; rintro e w' ⟨rfl, rfl⟩) | (go_at_call_of 35 (Value.int .i64 s1); refine (good_is s1 1 8 true t12 _).mono ?_; rintro e w' ⟨rfl, rfl⟩))
  go_quiet (first | (go_at_call_of 35 (Value.int .i64 p1); exact Calls.quiet_of_same (good_q p1 0 (k1 - 1) false t13 _ _)))
  have J2 := Lib.hid (J.out.drewN nq)
  clear J c00 c01 c10 c11 c20 c21 c30 c31 c32 c33 c40 c41 c42 c43 c44 f40 f41 f42 f43 f44
  have J := J2
  clear J2
  generalize u1.drewN nq = u2 at *
  have c00 := J.out.c00
  have c01 := J.out.c01
  have c10 := J.out.c10
  have c11 := J.out.c11
  have c20 := J.out.c20
  have c21 := J.out.c21
  have c30 := J.out.c30
  have c31 := J.out.c31
  have c32 := J.out.c32
  have c33 := J.out.c33
  have c40 := J.out.c40
  have c41 := J.out.c41
  have c42 := J.out.c42
  have c43 := J.out.c43
  have c44 := J.out.c44
  have f40 := J.out.f40
  have f41 := J.out.f41
  have f42 := J.out.f42
  have f43 := J.out.f43
  have f44 := J.out.f44
  go_wp2
  refine bodyPost_ret (results_ct rfl _ _ (w.heap.size + 1 + 1 + 1 + 1) 53 #[.complex .f64 0 0, .complex .f64 0 0, .complex .f64 0 0, .complex .f64 0 0, .complex .f64 0 0] (0, 0) _ rfl (blk_put (blk_put (blk_put (blk_put (blk_put J.out.b4 0 _ rfl) 1 _ rfl) 2 _ rfl) 3 _ rfl) 4 _ rfl) Try.underlying53 rfl (by kernel_rfl)) rfl ?_
  exact ⟨_, _, _, _, _, _, _, _, _, _, rfl, below_set (below_set (below_set (below_set (below_set J.out.bel (by omega)) (by omega)) (by omega)) (by omega)) (by omega)⟩

set_option maxHeartbeats 4000000 in
theorem of_no14 (n0 n1 k0 k1 s0 s1 p0 p1 p2 p3 : Int) (w : World) (t00 : decide (1 ≤ n0 ∧ n0 ≤ 64) = true) (t01 : decide (1 ≤ k0 ∧ k0 ≤ 8) = true) (t02 : decide (1 ≤ s0 ∧ s0 ≤ 8) = true) (t03 : decide (0 ≤ p0 ∧ p0 ≤ (k0 - 1)) = true) (t04 : decide (0 ≤ p2 ∧ p2 ≤ (k0 - 1)) = true) (t10 : decide (1 ≤ n1 ∧ n1 ≤ 64) = true) (t11 : decide (1 ≤ k1 ∧ k1 ≤ 8) = true) (t12 : decide (1 ≤ s1 ∧ s1 ≤ 8) = true) (t13 : decide (0 ≤ p1 ∧ p1 ≤ (k1 - 1)) = true) (t14 : decide (0 ≤ p3 ∧ p3 ≤ (k1 - 1)) = false) : Calls Try.prog 29 #[.agg #[.int .i64 n0, .int .i64 n1], .agg #[.int .i64 k0, .int .i64 k1], .agg #[.int .i64 s0, .int .i64 s1], .agg #[.int .i64 p0, .int .i64 p1, .int .i64 p2, .int .i64 p3]] w (NoFrame w) := by
  have J := Lib.hid (O.start n0 n1 k0 k1 s0 s1 p0 p1 p2 p3 w)
  have y0 : IntKind.i64.wrap (k0 - 1) = k0 - 1 := IntWalk.i64_in _ (by have := of_decide_eq_true t01; omega)
  have y1 : IntKind.i64.wrap (k1 - 1) = k1 - 1 := IntWalk.i64_in _ (by have := of_decide_eq_true t11; omega)
  go_enter Try.func29, Try.ntmps29
  go_wp2
  generalize ((((w.alloc (box2 n0 n1)).alloc (box2 k0 k1)).alloc (box2 s0 s1)).alloc (box4 p0 p1 p2 p3)).alloc z5 = u0 at *
  have c00 := J.out.c00
  have c01 := J.out.c01
  have c10 := J.out.c10
  have c11 := J.out.c11
  have c20 := J.out.c20
  have c21 := J.out.c21
  have c30 := J.out.c30
  have c31 := J.out.c31
  have c32 := J.out.c32
  have c33 := J.out.c33
  have c40 := J.out.c40
  have c41 := J.out.c41
  have c42 := J.out.c42
  have c43 := J.out.c43
  have c44 := J.out.c44
  have f40 := J.out.f40
  have f41 := J.out.f41
  have f42 := J.out.f42
  have f43 := J.out.f43
  have f44 := J.out.f44
  refine wp_loop_rounds 3 ?_
  rw [rounds_succ]
  go_wp2_with (first | (go_at_call_of 35 (Value.int .i64 n0); refine (good_is n0 1 64 true t00 _).mono ?_; rintro e w' ⟨rfl, rfl⟩) | (go_at_call_of 35 (Value.int .i64 k0); refine (good_is k0 1 8 true t01 _).mono ?_; rintro e w' ⟨rfl, rfl⟩) | (go_at_call_of 35 (Value.int .i64 s0); refine (good_is s0 1 8 true t02 _).mono ?_; rintro e w' ⟨rfl, rfl⟩))
  go_quiet (first | (go_at_call_of 35 (Value.int .i64 p0); exact Calls.quiet_of_same (good_q p0 0 (k0 - 1) true t03 _ _)) | (go_at_call_of 35 (Value.int .i64 p2); exact Calls.quiet_of_same (good_q p2 0 (k0 - 1) true t04 _ _)))
  have J2 := Lib.hid (J.out.drewN nq)
  clear J c00 c01 c10 c11 c20 c21 c30 c31 c32 c33 c40 c41 c42 c43 c44 f40 f41 f42 f43 f44
  have J := J2
  clear J2
  generalize u0.drewN nq = u1 at *
  have c00 := J.out.c00
  have c01 := J.out.c01
  have c10 := J.out.c10
  have c11 := J.out.c11
  have c20 := J.out.c20
  have c21 := J.out.c21
  have c30 := J.out.c30
  have c31 := J.out.c31
  have c32 := J.out.c32
  have c33 := J.out.c33
  have c40 := J.out.c40
  have c41 := J.out.c41
  have c42 := J.out.c42
  have c43 := J.out.c43
  have c44 := J.out.c44
  have f40 := J.out.f40
  have f41 := J.out.f41
  have f42 := J.out.f42
  have f43 := J.out.f43
  have f44 := J.out.f44
  go_wp2
  rw [rounds_succ]
  go_wp2_with (first | (go_at_call_of 35 (Value.int .i64 n1); refine (good_is n1 1 64 true t10 _).mono ?_; rintro e w' ⟨rfl, rfl⟩) | (go_at_call_of 35 (Value.int .i64 k1); refine (good_is k1 1 8 true t11 _).mono ?_; rintro e w' ⟨rfl, rfl⟩) | (go_at_call_of 35 (Value.int .i64 s1); refine (good_is s1 1 8 true t12 _).mono ?_; rintro e w' ⟨rfl, rfl⟩))
  go_quiet (first | (go_at_call_of 35 (Value.int .i64 p1); exact Calls.quiet_of_same (good_q p1 0 (k1 - 1) true t13 _ _)) | (go_at_call_of 35 (Value.int .i64 p3); exact Calls.quiet_of_same (good_q p3 0 (k1 - 1) false t14 _ _)))
  have J2 := Lib.hid (J.out.drewN nq)
  clear J c00 c01 c10 c11 c20 c21 c30 c31 c32 c33 c40 c41 c42 c43 c44 f40 f41 f42 f43 f44
  have J := J2
  clear J2
  generalize u1.drewN nq = u2 at *
  have c00 := J.out.c00
  have c01 := J.out.c01
  have c10 := J.out.c10
  have c11 := J.out.c11
  have c20 := J.out.c20
  have c21 := J.out.c21
  have c30 := J.out.c30
  have c31 := J.out.c31
  have c32 := J.out.c32
  have c33 := J.out.c33
  have c40 := J.out.c40
  have c41 := J.out.c41
  have c42 := J.out.c42
  have c43 := J.out.c43
  have c44 := J.out.c44
  have f40 := J.out.f40
  have f41 := J.out.f41
  have f42 := J.out.f42
  have f43 := J.out.f43
  have f44 := J.out.f44
  go_wp2
  refine bodyPost_ret (results_ct rfl _ _ (w.heap.size + 1 + 1 + 1 + 1) 53 #[.complex .f64 0 0, .complex .f64 0 0, .complex .f64 0 0, .complex .f64 0 0, .complex .f64 0 0] (0, 0) _ rfl (blk_put (blk_put (blk_put (blk_put (blk_put J.out.b4 0 _ rfl) 1 _ rfl) 2 _ rfl) 3 _ rfl) 4 _ rfl) Try.underlying53 rfl (by kernel_rfl)) rfl ?_
  exact ⟨_, _, _, _, _, _, _, _, _, _, rfl, below_set (below_set (below_set (below_set (below_set J.out.bel (by omega)) (by omega)) (by omega)) (by omega)) (by omega)⟩

end Go.Proofs.Ytfcimgdogkpbcaa.W
