/- tensor.Join: two shapes as one, or none; for every two shapes. No condition beyond those in its statements. -/
import Derived.Test.YtfcimgdogkpbcaaT4
import Derived.Deep.RegionWith
namespace Go.Proofs.Ytfcimgdogkpbcaa.T1
open Go.RowKit
set_option linter.unusedVariables false
set_option maxRecDepth 100000

/-- Join's four boxes, in a world behind the one that it was called in. -/
structure Js (a b c d e f s : Int) (w W : World) : Prop where
  b0 : W.heap[w.heap.size]? = some (box3 a b c)
  b1 : W.heap[w.heap.size + 1]? = some (box3 d e f)
  b2 : W.heap[w.heap.size + 1 + 1]? = some (box3 0 0 0)
  b3 : W.heap[w.heap.size + 1 + 1 + 1]? = some (box3 a b s)
  bel : Below w.heap.size w W

theorem Js.step {a b c d e f s : Int} {w W W' : World} (J : Js a b c d e f s w W) (hb : Below W.heap.size W W') : Js a b c d e f s w W' :=
  ⟨blk_below J.b0 hb, blk_below J.b1 hb, blk_below J.b2 hb, blk_below J.b3 hb, below_step J.bel hb⟩

theorem Js.start (a b c d e f s : Int) (w : World) : Js a b c d e f s w ((((w.alloc (box3 a b c)).alloc (box3 d e f)).alloc (box3 0 0 0)).alloc (box3 a b s)) := by
  have e1 : (w.alloc (box3 a b c)).heap.size = w.heap.size + 1 := by simp
  have e2 : ((w.alloc (box3 a b c)).alloc (box3 d e f)).heap.size = w.heap.size + 1 + 1 := by simp
  have e3 : (((w.alloc (box3 a b c)).alloc (box3 d e f)).alloc (box3 0 0 0)).heap.size = w.heap.size + 1 + 1 + 1 := by simp
  have k0 := blk_new w (box3 a b c)
  have k1 := blk_new (w.alloc (box3 a b c)) (box3 d e f)
  have k2 := blk_new ((w.alloc (box3 a b c)).alloc (box3 d e f)) (box3 0 0 0)
  have k3 := blk_new (((w.alloc (box3 a b c)).alloc (box3 d e f)).alloc (box3 0 0 0)) (box3 a b s)
  rw [e1] at k1; rw [e2] at k2; rw [e3] at k3
  exact ⟨blk_alloc (blk_alloc (blk_alloc k0 _) _) _, blk_alloc (blk_alloc k1 _) _, blk_alloc k2 _, k3, below_alloc (below_alloc (below_alloc (below_alloc (Below.refl _ _) _) _) _) _⟩

section
variable {a b c d e f s : Int} {w W : World}
theorem Js.c00 (J : Js a b c d e f s w W) : W.cell? ⟨w.heap.size, 0, none⟩ = some (.int .i64 a) := (blk_cell J.b0 0).trans rfl
theorem Js.c01 (J : Js a b c d e f s w W) : W.cell? ⟨w.heap.size, 1, none⟩ = some (.int .i64 b) := (blk_cell J.b0 1).trans rfl
theorem Js.c02 (J : Js a b c d e f s w W) : W.cell? ⟨w.heap.size, 2, none⟩ = some (.int .i64 c) := (blk_cell J.b0 2).trans rfl
theorem Js.c10 (J : Js a b c d e f s w W) : W.cell? ⟨w.heap.size + 1, 0, none⟩ = some (.int .i64 d) := (blk_cell J.b1 0).trans rfl
theorem Js.c11 (J : Js a b c d e f s w W) : W.cell? ⟨w.heap.size + 1, 1, none⟩ = some (.int .i64 e) := (blk_cell J.b1 1).trans rfl
theorem Js.c12 (J : Js a b c d e f s w W) : W.cell? ⟨w.heap.size + 1, 2, none⟩ = some (.int .i64 f) := (blk_cell J.b1 2).trans rfl
theorem Js.c20 (J : Js a b c d e f s w W) : W.cell? ⟨w.heap.size + 1 + 1, 0, none⟩ = some (.int .i64 0) := (blk_cell J.b2 0).trans rfl
theorem Js.f20 (J : Js a b c d e f s w W) : W.frozen? ⟨w.heap.size + 1 + 1, 0, none⟩ = false := blk_frozen J.b2 0
theorem Js.c21 (J : Js a b c d e f s w W) : W.cell? ⟨w.heap.size + 1 + 1, 1, none⟩ = some (.int .i64 0) := (blk_cell J.b2 1).trans rfl
theorem Js.f21 (J : Js a b c d e f s w W) : W.frozen? ⟨w.heap.size + 1 + 1, 1, none⟩ = false := blk_frozen J.b2 1
theorem Js.c22 (J : Js a b c d e f s w W) : W.cell? ⟨w.heap.size + 1 + 1, 2, none⟩ = some (.int .i64 0) := (blk_cell J.b2 2).trans rfl
theorem Js.f22 (J : Js a b c d e f s w W) : W.frozen? ⟨w.heap.size + 1 + 1, 2, none⟩ = false := blk_frozen J.b2 2
theorem Js.c30 (J : Js a b c d e f s w W) : W.cell? ⟨w.heap.size + 1 + 1 + 1, 0, none⟩ = some (.int .i64 a) := (blk_cell J.b3 0).trans rfl
theorem Js.c31 (J : Js a b c d e f s w W) : W.cell? ⟨w.heap.size + 1 + 1 + 1, 1, none⟩ = some (.int .i64 b) := (blk_cell J.b3 1).trans rfl
theorem Js.c32 (J : Js a b c d e f s w W) : W.cell? ⟨w.heap.size + 1 + 1 + 1, 2, none⟩ = some (.int .i64 s) := (blk_cell J.b3 2).trans rfl
end

set_option maxHeartbeats 4000000 in
theorem join_1 (a b c d e f s : Int) (w : World) (hs : IntKind.i64.wrap (c + f) = s) (h1 : sizeR a b c = 0) : Calls Try.prog 19 #[.agg #[.int .i64 a, .int .i64 b, .int .i64 c], .agg #[.int .i64 d, .int .i64 e, .int .i64 f]] w fun e w' => e = .returned (.tuple #[.agg #[.int .i64 0, .int .i64 0, .int .i64 0], .bool false]) ∧ Below w.heap.size w w' := by
  have J := Js.start a b c d e f s w
  go_enter Try.func19, Try.ntmps19
  go_wp2_with (first | (go_at_call_of 28 (Value.int .i64 c); refine (size_eq a b c 0 h1 _).mono ?_; rintro e w' ⟨rfl, hb⟩; have J2 := J.step hb; clear J hb; have J := J2; clear J2; have c20 := J.c20; have c21 := J.c21; have c22 := J.c22; have f20 := J.f20; have f21 := J.f21; have f22 := J.f22))
  refine bodyPost_ret (results_ct rfl _ _ (w.heap.size + 1 + 1) 22 #[.int .i64 0, .int .i64 0, .int .i64 0] (0, 0) _ rfl (blk_put (blk_put (blk_put J.b2 0 _ rfl) 1 _ rfl) 2 _ rfl) Try.underlying22 rfl (by kernel_rfl)) rfl ?_
  exact ⟨rfl, below_set (below_set (below_set J.bel (by omega)) (by omega)) (by omega)⟩

set_option maxHeartbeats 4000000 in
theorem join_2 (a b c d e f s : Int) (w : World) (hs : IntKind.i64.wrap (c + f) = s) (n1 : Int) (h1 : sizeR a b c = n1) (k1 : (n1 == 0) = false) (h2 : sizeR d e f = 0) : Calls Try.prog 19 #[.agg #[.int .i64 a, .int .i64 b, .int .i64 c], .agg #[.int .i64 d, .int .i64 e, .int .i64 f]] w fun e w' => e = .returned (.tuple #[.agg #[.int .i64 0, .int .i64 0, .int .i64 0], .bool false]) ∧ Below w.heap.size w w' := by
  have J := Js.start a b c d e f s w
  go_enter Try.func19, Try.ntmps19
  go_wp2_with (first | (go_at_call_of 28 (Value.int .i64 c); refine (size_eq a b c n1 h1 _).mono ?_; rintro e w' ⟨rfl, hb⟩; have J2 := J.step hb; clear J hb; have J := J2; clear J2; have c10 := J.c10; have c11 := J.c11; have c12 := J.c12) | (go_at_call_of 28 (Value.int .i64 f); refine (size_eq d e f 0 h2 _).mono ?_; rintro e w' ⟨rfl, hb⟩; have J2 := J.step hb; clear J hb; clear c10; clear c11; clear c12; have J := J2; clear J2; have c20 := J.c20; have c21 := J.c21; have c22 := J.c22; have f20 := J.f20; have f21 := J.f21; have f22 := J.f22))
  refine bodyPost_ret (results_ct rfl _ _ (w.heap.size + 1 + 1) 22 #[.int .i64 0, .int .i64 0, .int .i64 0] (0, 0) _ rfl (blk_put (blk_put (blk_put J.b2 0 _ rfl) 1 _ rfl) 2 _ rfl) Try.underlying22 rfl (by kernel_rfl)) rfl ?_
  exact ⟨rfl, below_set (below_set (below_set J.bel (by omega)) (by omega)) (by omega)⟩

set_option maxHeartbeats 4000000 in
theorem join_3 (a b c d e f s : Int) (w : World) (hs : IntKind.i64.wrap (c + f) = s) (n1 : Int) (h1 : sizeR a b c = n1) (k1 : (n1 == 0) = false) (n2 : Int) (h2 : sizeR d e f = n2) (k2 : (n2 == 0) = false) (k : (a != d) = true) (k' : (a == d) = false) : Calls Try.prog 19 #[.agg #[.int .i64 a, .int .i64 b, .int .i64 c], .agg #[.int .i64 d, .int .i64 e, .int .i64 f]] w fun e w' => e = .returned (.tuple #[.agg #[.int .i64 0, .int .i64 0, .int .i64 0], .bool false]) ∧ Below w.heap.size w w' := by
  have J := Js.start a b c d e f s w
  go_enter Try.func19, Try.ntmps19
  go_wp2_with (first | (go_at_call_of 28 (Value.int .i64 c); refine (size_eq a b c n1 h1 _).mono ?_; rintro e w' ⟨rfl, hb⟩; have J2 := J.step hb; clear J hb; have J := J2; clear J2; have c10 := J.c10; have c11 := J.c11; have c12 := J.c12) | (go_at_call_of 28 (Value.int .i64 f); refine (size_eq d e f n2 h2 _).mono ?_; rintro e w' ⟨rfl, hb⟩; have J2 := J.step hb; clear J hb; clear c10; clear c11; clear c12; have J := J2; clear J2; have c00 := J.c00; have c10 := J.c10; have c20 := J.c20; have c21 := J.c21; have c22 := J.c22; have f20 := J.f20; have f21 := J.f21; have f22 := J.f22))
  refine bodyPost_ret (results_ct rfl _ _ (w.heap.size + 1 + 1) 22 #[.int .i64 0, .int .i64 0, .int .i64 0] (0, 0) _ rfl (blk_put (blk_put (blk_put J.b2 0 _ rfl) 1 _ rfl) 2 _ rfl) Try.underlying22 rfl (by kernel_rfl)) rfl ?_
  exact ⟨rfl, below_set (below_set (below_set J.bel (by omega)) (by omega)) (by omega)⟩

set_option maxHeartbeats 4000000 in
theorem join_4 (a b c d e f s : Int) (w : World) (hs : IntKind.i64.wrap (c + f) = s) (n1 : Int) (h1 : sizeR a b c = n1) (k1 : (n1 == 0) = false) (n2 : Int) (h2 : sizeR d e f = n2) (k2 : (n2 == 0) = false) (k : (a != d) = false) (k' : (a == d) = true) (l : (b != e) = true) (l' : (b == e) = false) : Calls Try.prog 19 #[.agg #[.int .i64 a, .int .i64 b, .int .i64 c], .agg #[.int .i64 d, .int .i64 e, .int .i64 f]] w fun e w' => e = .returned (.tuple #[.agg #[.int .i64 0, .int .i64 0, .int .i64 0], .bool false]) ∧ Below w.heap.size w w' := by
  have J := Js.start a b c d e f s w
  go_enter Try.func19, Try.ntmps19
  go_wp2_with (first | (go_at_call_of 28 (Value.int .i64 c); refine (size_eq a b c n1 h1 _).mono ?_; rintro e w' ⟨rfl, hb⟩; have J2 := J.step hb; clear J hb; have J := J2; clear J2; have c10 := J.c10; have c11 := J.c11; have c12 := J.c12) | (go_at_call_of 28 (Value.int .i64 f); refine (size_eq d e f n2 h2 _).mono ?_; rintro e w' ⟨rfl, hb⟩; have J2 := J.step hb; clear J hb; clear c10; clear c11; clear c12; have J := J2; clear J2; have c00 := J.c00; have c01 := J.c01; have c10 := J.c10; have c11 := J.c11; have c20 := J.c20; have c21 := J.c21; have c22 := J.c22; have f20 := J.f20; have f21 := J.f21; have f22 := J.f22))
  refine bodyPost_ret (results_ct rfl _ _ (w.heap.size + 1 + 1) 22 #[.int .i64 0, .int .i64 0, .int .i64 0] (0, 0) _ rfl (blk_put (blk_put (blk_put J.b2 0 _ rfl) 1 _ rfl) 2 _ rfl) Try.underlying22 rfl (by kernel_rfl)) rfl ?_
  exact ⟨rfl, below_set (below_set (below_set J.bel (by omega)) (by omega)) (by omega)⟩

set_option maxHeartbeats 4000000 in
theorem join_5 (a b c d e f s : Int) (w : World) (hs : IntKind.i64.wrap (c + f) = s) (n1 : Int) (h1 : sizeR a b c = n1) (k1 : (n1 == 0) = false) (n2 : Int) (h2 : sizeR d e f = n2) (k2 : (n2 == 0) = false) (h3 : sizeR a b s = 0) (k : (a != d) = false) (k' : (a == d) = true) (l : (b != e) = false) (l' : (b == e) = true) : Calls Try.prog 19 #[.agg #[.int .i64 a, .int .i64 b, .int .i64 c], .agg #[.int .i64 d, .int .i64 e, .int .i64 f]] w fun e w' => e = .returned (.tuple #[.agg #[.int .i64 0, .int .i64 0, .int .i64 0], .bool false]) ∧ Below w.heap.size w w' := by
  have J := Js.start a b c d e f s w
  go_enter Try.func19, Try.ntmps19
  go_wp2_with (first | (go_at_call_of 28 (Value.int .i64 c); refine (size_eq a b c n1 h1 _).mono ?_; rintro e w' ⟨rfl, hb⟩; have J2 := J.step hb; clear J hb; have J := J2; clear J2; have c10 := J.c10; have c11 := J.c11; have c12 := J.c12) | (go_at_call_of 28 (Value.int .i64 f); refine (size_eq d e f n2 h2 _).mono ?_; rintro e w' ⟨rfl, hb⟩; have J2 := J.step hb; clear J hb; clear c10; clear c11; clear c12; have J := J2; clear J2; have c00 := J.c00; have c01 := J.c01; have c10 := J.c10; have c11 := J.c11; have c30 := J.c30; have c31 := J.c31; have c32 := J.c32) | (go_at_call_of 28 (Value.int .i64 s); refine (size_eq a b s 0 h3 _).mono ?_; rintro e w' ⟨rfl, hb⟩; have J2 := J.step hb; clear J hb; clear c00; clear c01; clear c10; clear c11; clear c30; clear c31; clear c32; have J := J2; clear J2; have c20 := J.c20; have c21 := J.c21; have c22 := J.c22; have f20 := J.f20; have f21 := J.f21; have f22 := J.f22))
  refine bodyPost_ret (results_ct rfl _ _ (w.heap.size + 1 + 1) 22 #[.int .i64 0, .int .i64 0, .int .i64 0] (0, 0) _ rfl (blk_put (blk_put (blk_put J.b2 0 _ rfl) 1 _ rfl) 2 _ rfl) Try.underlying22 rfl (by kernel_rfl)) rfl ?_
  exact ⟨rfl, below_set (below_set (below_set J.bel (by omega)) (by omega)) (by omega)⟩

set_option maxHeartbeats 4000000 in
theorem join_6 (a b c d e f s : Int) (w : World) (hs : IntKind.i64.wrap (c + f) = s) (n1 : Int) (h1 : sizeR a b c = n1) (k1 : (n1 == 0) = false) (n2 : Int) (h2 : sizeR d e f = n2) (k2 : (n2 == 0) = false) (n3 : Int) (h3 : sizeR a b s = n3) (k3 : (n3 == 0) = false) (k : (a != d) = false) (k' : (a == d) = true) (l : (b != e) = false) (l' : (b == e) = true) : Calls Try.prog 19 #[.agg #[.int .i64 a, .int .i64 b, .int .i64 c], .agg #[.int .i64 d, .int .i64 e, .int .i64 f]] w fun e w' => e = .returned (.tuple #[.agg #[.int .i64 a, .int .i64 b, .int .i64 s], .bool true]) ∧ Below w.heap.size w w' := by
  have J := Js.start a b c d e f s w
  go_enter Try.func19, Try.ntmps19
  go_wp2_with (first | (go_at_call_of 28 (Value.int .i64 c); refine (size_eq a b c n1 h1 _).mono ?_; rintro e w' ⟨rfl, hb⟩; have J2 := J.step hb; clear J hb; have J := J2; clear J2; have c10 := J.c10; have c11 := J.c11; have c12 := J.c12) | (go_at_call_of 28 (Value.int .i64 f); refine (size_eq d e f n2 h2 _).mono ?_; rintro e w' ⟨rfl, hb⟩; have J2 := J.step hb; clear J hb; clear c10; clear c11; clear c12; have J := J2; clear J2; have c00 := J.c00; have c01 := J.c01; have c10 := J.c10; have c11 := J.c11; have c30 := J.c30; have c31 := J.c31; have c32 := J.c32) | (go_at_call_of 28 (Value.int .i64 s); refine (size_eq a b s n3 h3 _).mono ?_; rintro e w' ⟨rfl, hb⟩; have J2 := J.step hb; clear J hb; clear c00; clear c01; clear c10; clear c11; clear c30; clear c31; clear c32; have J := J2; clear J2; have c30 := J.c30; have c31 := J.c31; have c32 := J.c32; have c20 := J.c20; have c21 := J.c21; have c22 := J.c22; have f20 := J.f20; have f21 := J.f21; have f22 := J.f22))
  refine bodyPost_ret (results_ct rfl _ _ (w.heap.size + 1 + 1) 22 #[.int .i64 a, .int .i64 b, .int .i64 s] (0, 0) _ rfl (blk_put (blk_put (blk_put J.b2 0 _ rfl) 1 _ rfl) 2 _ rfl) Try.underlying22 rfl (by kernel_rfl)) rfl ?_
  exact ⟨rfl, below_set (below_set (below_set J.bel (by omega)) (by omega)) (by omega)⟩

end Go.Proofs.Ytfcimgdogkpbcaa.T1
