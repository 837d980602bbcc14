/- Window: the reference's Good. -/
import Derived.Test.YtfcimgdogkpbcaaW4
import Derived.Test.YtfcimgdogkpbcaaOps
namespace Go.Proofs.Ytfcimgdogkpbcaa.W
open Go.RowKit T1 F Dr
set_option linter.unusedVariables false
set_option linter.unusedSimpArgs false
set_option maxRecDepth 100000

def badB (n k s p q : Int) : Bool := decide (n < 1) || decide (64 < n) || decide (k < 1) || decide (8 < k) || decide (s < 1) || decide (8 < s) || decide (p < 0) || decide (k ≤ p) || decide (q < 0) || decide (k ≤ q)
theorem badB_no {n k s p q : Int} (h : badB n k s p q = false) : 1 ≤ n ∧ n ≤ 64 ∧ 1 ≤ k ∧ k ≤ 8 ∧ 1 ≤ s ∧ s ≤ 8 ∧ 0 ≤ p ∧ p < k ∧ 0 ≤ q ∧ q < k := by
  simp [badB] at h
  omega
def shortB (n k p q : Int) : Bool := decide (n + p + q < k)
def goodV (n0 n1 k0 k1 s0 s1 p0 p1 p2 p3 : Int) : Bool := !badB n0 k0 s0 p0 p2 && !shortB n0 k0 p0 p2 && !badB n1 k1 s1 p1 p3 && !shortB n1 k1 p1 p3
structure O4 (n0 n1 k0 k1 s0 s1 p0 p1 p2 p3 : Int) (w W : World) : Prop where
  b0 : W.heap[w.heap.size]? = some (box2 n0 n1)
  b1 : W.heap[w.heap.size + 1]? = some (box2 k0 k1)
  b2 : W.heap[w.heap.size + 1 + 1]? = some (box2 s0 s1)
  b3 : W.heap[w.heap.size + 1 + 1 + 1]? = some (box4 p0 p1 p2 p3)
  bel : Below w.heap.size w W
theorem O4.step {n0 n1 k0 k1 s0 s1 p0 p1 p2 p3 : Int} {w W : World} {W' : World} (J : O4 n0 n1 k0 k1 s0 s1 p0 p1 p2 p3 w W) (hb : Below W.heap.size W W') : O4 n0 n1 k0 k1 s0 s1 p0 p1 p2 p3 w W' := ⟨blk_below J.b0 hb, blk_below J.b1 hb, blk_below J.b2 hb, blk_below J.b3 hb, below_step J.bel hb⟩
theorem O4.drew {n0 n1 k0 k1 s0 s1 p0 p1 p2 p3 : Int} {w W : World} (J : O4 n0 n1 k0 k1 s0 s1 p0 p1 p2 p3 w W) : O4 n0 n1 k0 k1 s0 s1 p0 p1 p2 p3 w W.drew := ⟨J.b0, J.b1, J.b2, J.b3, J.bel.drew⟩
theorem O4.alloc {n0 n1 k0 k1 s0 s1 p0 p1 p2 p3 : Int} {w W : World} (J : O4 n0 n1 k0 k1 s0 s1 p0 p1 p2 p3 w W) (o : Obj) : O4 n0 n1 k0 k1 s0 s1 p0 p1 p2 p3 w (W.alloc o) := J.step ((Below.refl _ _).alloc (Nat.le_refl _) o)
theorem O4.size {n0 n1 k0 k1 s0 s1 p0 p1 p2 p3 : Int} {w W : World} (J : O4 n0 n1 k0 k1 s0 s1 p0 p1 p2 p3 w W) : w.heap.size + 4 ≤ W.heap.size := by
  have := (Array.getElem?_eq_some_iff.1 J.b3).1
  omega
theorem O4.start (n0 n1 k0 k1 s0 s1 p0 p1 p2 p3 : Int) (w : World) : O4 n0 n1 k0 k1 s0 s1 p0 p1 p2 p3 w ((((w.alloc (box2 n0 n1)).alloc (box2 k0 k1)).alloc (box2 s0 s1)).alloc (box4 p0 p1 p2 p3)) := by
  have e1 : ((w.alloc (box2 n0 n1))).heap.size = w.heap.size + 1 := by simp
  have e2 : (((w.alloc (box2 n0 n1)).alloc (box2 k0 k1))).heap.size = w.heap.size + 1 + 1 := by simp
  have e3 : ((((w.alloc (box2 n0 n1)).alloc (box2 k0 k1)).alloc (box2 s0 s1))).heap.size = w.heap.size + 1 + 1 + 1 := by simp
  have k0' := blk_new w (box2 n0 n1)
  have k1' := blk_new (w.alloc (box2 n0 n1)) (box2 k0 k1)
  rw [e1] at k1'
  have k2' := blk_new ((w.alloc (box2 n0 n1)).alloc (box2 k0 k1)) (box2 s0 s1)
  rw [e2] at k2'
  have k3' := blk_new (((w.alloc (box2 n0 n1)).alloc (box2 k0 k1)).alloc (box2 s0 s1)) (box4 p0 p1 p2 p3)
  rw [e3] at k3'
  exact ⟨blk_alloc (blk_alloc (blk_alloc (k0') _) _) _, blk_alloc (blk_alloc (k1') _) _, blk_alloc (k2') _, k3', below_alloc (below_alloc (below_alloc (below_alloc (Below.refl _ _) _) _) _) _⟩
theorem O4.set {n0 n1 k0 k1 s0 s1 p0 p1 p2 p3 : Int} {w W : World} {g : Nat} (J : O4 n0 n1 k0 k1 s0 s1 p0 p1 p2 p3 w W) (hg : w.heap.size + 4 ≤ g) (i : Nat) (v : Value) : O4 n0 n1 k0 k1 s0 s1 p0 p1 p2 p3 w (W.setCell ⟨g, i, none⟩ v) :=
  ⟨(Below.heap_setCell _ _ _ _ (by show _ ≠ g; omega)).trans J.b0, (Below.heap_setCell _ _ _ _ (by show _ ≠ g; omega)).trans J.b1, (Below.heap_setCell _ _ _ _ (by show _ ≠ g; omega)).trans J.b2, (Below.heap_setCell _ _ _ _ (by show _ ≠ g; omega)).trans J.b3, below_set J.bel (by omega)⟩
set_option maxHeartbeats 4000000 in
theorem refGood (n0 n1 k0 k1 s0 s1 p0 p1 p2 p3 : Int) (w : World) : Calls Try.prog 21 #[.agg #[.int .i64 n0, .int .i64 n1], .agg #[.int .i64 k0, .int .i64 k1], .agg #[.int .i64 s0, .int .i64 s1], .agg #[.int .i64 p0, .int .i64 p1, .int .i64 p2, .int .i64 p3]] w (fun e w' => e = .returned (.bool (goodV n0 n1 k0 k1 s0 s1 p0 p1 p2 p3)) ∧ Below w.heap.size w w') := by
  have J := O4.start n0 n1 k0 k1 s0 s1 p0 p1 p2 p3 w
  have J := Lib.hid J
  go_enter Try.func21, Try.ntmps21
  go_wp2
  generalize (((w.alloc (box2 n0 n1)).alloc (box2 k0 k1)).alloc (box2 s0 s1)).alloc (box4 p0 p1 p2 p3) = u0 at *
  refine wp_loop_rounds 3 ?_
  rw [rounds_succ]
  go_wp2
  replace J := J.out
  refine wp_drawn (R := fun W W' => Below W.heap.size W W') 66 [.val (.int .i64 0), .val (.pointer (some ⟨w.heap.size, 0, none⟩)), .val (.int .i64 n0), .val (.bool (decide (n0 < 1))), .val (.bool (decide (n0 < 1))), .val ((bif ((decide (n0 < 1)) == false) then (.int .i64 0) else undef)), .val ((bif ((decide (n0 < 1)) == false) then (.pointer (some ⟨w.heap.size, 0, none⟩)) else undef)), .val ((bif ((decide (n0 < 1)) == false) then (.int .i64 n0) else undef)), .val ((bif ((decide (n0 < 1)) == false) then (.bool (decide (64 < n0))) else undef)), .val (.bool ((decide (n0 < 1)) || (decide (64 < n0)))), .val (.bool ((decide (n0 < 1)) || (decide (64 < n0)))), .val ((bif (((decide (n0 < 1)) || (decide (64 < n0))) == false) then (.int .i64 0) else undef)), .val ((bif (((decide (n0 < 1)) || (decide (64 < n0))) == false) then (.pointer (some ⟨w.heap.size + 1, 0, none⟩)) else undef)), .val ((bif (((decide (n0 < 1)) || (decide (64 < n0))) == false) then (.int .i64 k0) else undef)), .val ((bif (((decide (n0 < 1)) || (decide (64 < n0))) == false) then (.bool (decide (k0 < 1))) else undef)), .val (.bool (((decide (n0 < 1)) || (decide (64 < n0))) || (decide (k0 < 1)))), .val (.bool (((decide (n0 < 1)) || (decide (64 < n0))) || (decide (k0 < 1)))), .val ((bif ((((decide (n0 < 1)) || (decide (64 < n0))) || (decide (k0 < 1))) == false) then (.int .i64 0) else undef)), .val ((bif ((((decide (n0 < 1)) || (decide (64 < n0))) || (decide (k0 < 1))) == false) then (.pointer (some ⟨w.heap.size + 1, 0, none⟩)) else undef)), .val ((bif ((((decide (n0 < 1)) || (decide (64 < n0))) || (decide (k0 < 1))) == false) then (.int .i64 k0) else undef)), .val ((bif ((((decide (n0 < 1)) || (decide (64 < n0))) || (decide (k0 < 1))) == false) then (.bool (decide (8 < k0))) else undef)), .val (.bool ((((decide (n0 < 1)) || (decide (64 < n0))) || (decide (k0 < 1))) || (decide (8 < k0)))), .val (.bool ((((decide (n0 < 1)) || (decide (64 < n0))) || (decide (k0 < 1))) || (decide (8 < k0)))), .val ((bif (((((decide (n0 < 1)) || (decide (64 < n0))) || (decide (k0 < 1))) || (decide (8 < k0))) == false) then (.int .i64 0) else undef)), .val ((bif (((((decide (n0 < 1)) || (decide (64 < n0))) || (decide (k0 < 1))) || (decide (8 < k0))) == false) then (.pointer (some ⟨w.heap.size + 1 + 1, 0, none⟩)) else undef)), .val ((bif (((((decide (n0 < 1)) || (decide (64 < n0))) || (decide (k0 < 1))) || (decide (8 < k0))) == false) then (.int .i64 s0) else undef)), .val ((bif (((((decide (n0 < 1)) || (decide (64 < n0))) || (decide (k0 < 1))) || (decide (8 < k0))) == false) then (.bool (decide (s0 < 1))) else undef)), .val (.bool (((((decide (n0 < 1)) || (decide (64 < n0))) || (decide (k0 < 1))) || (decide (8 < k0))) || (decide (s0 < 1)))), .val (.bool (((((decide (n0 < 1)) || (decide (64 < n0))) || (decide (k0 < 1))) || (decide (8 < k0))) || (decide (s0 < 1)))), .val ((bif ((((((decide (n0 < 1)) || (decide (64 < n0))) || (decide (k0 < 1))) || (decide (8 < k0))) || (decide (s0 < 1))) == false) then (.int .i64 0) else undef)), .val ((bif ((((((decide (n0 < 1)) || (decide (64 < n0))) || (decide (k0 < 1))) || (decide (8 < k0))) || (decide (s0 < 1))) == false) then (.pointer (some ⟨w.heap.size + 1 + 1, 0, none⟩)) else undef)), .val ((bif ((((((decide (n0 < 1)) || (decide (64 < n0))) || (decide (k0 < 1))) || (decide (8 < k0))) || (decide (s0 < 1))) == false) then (.int .i64 s0) else undef)), .val ((bif ((((((decide (n0 < 1)) || (decide (64 < n0))) || (decide (k0 < 1))) || (decide (8 < k0))) || (decide (s0 < 1))) == false) then (.bool (decide (8 < s0))) else undef)), .val (.bool ((((((decide (n0 < 1)) || (decide (64 < n0))) || (decide (k0 < 1))) || (decide (8 < k0))) || (decide (s0 < 1))) || (decide (8 < s0)))), .val (.bool ((((((decide (n0 < 1)) || (decide (64 < n0))) || (decide (k0 < 1))) || (decide (8 < k0))) || (decide (s0 < 1))) || (decide (8 < s0)))), .val ((bif (((((((decide (n0 < 1)) || (decide (64 < n0))) || (decide (k0 < 1))) || (decide (8 < k0))) || (decide (s0 < 1))) || (decide (8 < s0))) == false) then (.int .i64 0) else undef)), .val ((bif (((((((decide (n0 < 1)) || (decide (64 < n0))) || (decide (k0 < 1))) || (decide (8 < k0))) || (decide (s0 < 1))) || (decide (8 < s0))) == false) then (.pointer (some ⟨w.heap.size + 1 + 1 + 1, 0, none⟩)) else undef)), .val ((bif (((((((decide (n0 < 1)) || (decide (64 < n0))) || (decide (k0 < 1))) || (decide (8 < k0))) || (decide (s0 < 1))) || (decide (8 < s0))) == false) then (.int .i64 p0) else undef)), .val ((bif (((((((decide (n0 < 1)) || (decide (64 < n0))) || (decide (k0 < 1))) || (decide (8 < k0))) || (decide (s0 < 1))) || (decide (8 < s0))) == false) then (.bool (decide (p0 < 0))) else undef)), .val (.bool (((((((decide (n0 < 1)) || (decide (64 < n0))) || (decide (k0 < 1))) || (decide (8 < k0))) || (decide (s0 < 1))) || (decide (8 < s0))) || (decide (p0 < 0)))), .val (.bool (((((((decide (n0 < 1)) || (decide (64 < n0))) || (decide (k0 < 1))) || (decide (8 < k0))) || (decide (s0 < 1))) || (decide (8 < s0))) || (decide (p0 < 0)))), .val ((bif ((((((((decide (n0 < 1)) || (decide (64 < n0))) || (decide (k0 < 1))) || (decide (8 < k0))) || (decide (s0 < 1))) || (decide (8 < s0))) || (decide (p0 < 0))) == false) then (.int .i64 0) else undef)), .val ((bif ((((((((decide (n0 < 1)) || (decide (64 < n0))) || (decide (k0 < 1))) || (decide (8 < k0))) || (decide (s0 < 1))) || (decide (8 < s0))) || (decide (p0 < 0))) == false) then (.pointer (some ⟨w.heap.size + 1 + 1 + 1, 0, none⟩)) else undef)), .val ((bif ((((((((decide (n0 < 1)) || (decide (64 < n0))) || (decide (k0 < 1))) || (decide (8 < k0))) || (decide (s0 < 1))) || (decide (8 < s0))) || (decide (p0 < 0))) == false) then (.int .i64 p0) else undef)), .val ((bif ((((((((decide (n0 < 1)) || (decide (64 < n0))) || (decide (k0 < 1))) || (decide (8 < k0))) || (decide (s0 < 1))) || (decide (8 < s0))) || (decide (p0 < 0))) == false) then (.int .i64 0) else undef)), .val ((bif ((((((((decide (n0 < 1)) || (decide (64 < n0))) || (decide (k0 < 1))) || (decide (8 < k0))) || (decide (s0 < 1))) || (decide (8 < s0))) || (decide (p0 < 0))) == false) then (.pointer (some ⟨w.heap.size + 1, 0, none⟩)) else undef)), .val ((bif ((((((((decide (n0 < 1)) || (decide (64 < n0))) || (decide (k0 < 1))) || (decide (8 < k0))) || (decide (s0 < 1))) || (decide (8 < s0))) || (decide (p0 < 0))) == false) then (.int .i64 k0) else undef)), .val ((bif ((((((((decide (n0 < 1)) || (decide (64 < n0))) || (decide (k0 < 1))) || (decide (8 < k0))) || (decide (s0 < 1))) || (decide (8 < s0))) || (decide (p0 < 0))) == false) then (.bool (decide (k0 ≤ p0))) else undef)), .val (.bool ((((((((decide (n0 < 1)) || (decide (64 < n0))) || (decide (k0 < 1))) || (decide (8 < k0))) || (decide (s0 < 1))) || (decide (8 < s0))) || (decide (p0 < 0))) || (decide (k0 ≤ p0)))), .val (.bool ((((((((decide (n0 < 1)) || (decide (64 < n0))) || (decide (k0 < 1))) || (decide (8 < k0))) || (decide (s0 < 1))) || (decide (8 < s0))) || (decide (p0 < 0))) || (decide (k0 ≤ p0)))), .val ((bif (((((((((decide (n0 < 1)) || (decide (64 < n0))) || (decide (k0 < 1))) || (decide (8 < k0))) || (decide (s0 < 1))) || (decide (8 < s0))) || (decide (p0 < 0))) || (decide (k0 ≤ p0))) == false) then (.int .i64 0) else undef)), .val ((bif (((((((((decide (n0 < 1)) || (decide (64 < n0))) || (decide (k0 < 1))) || (decide (8 < k0))) || (decide (s0 < 1))) || (decide (8 < s0))) || (decide (p0 < 0))) || (decide (k0 ≤ p0))) == false) then (.int .i64 (2)) else undef)), .val ((bif (((((((((decide (n0 < 1)) || (decide (64 < n0))) || (decide (k0 < 1))) || (decide (8 < k0))) || (decide (s0 < 1))) || (decide (8 < s0))) || (decide (p0 < 0))) || (decide (k0 ≤ p0))) == false) then (.pointer (some ⟨w.heap.size + 1 + 1 + 1, 2, none⟩)) else undef)), .val ((bif (((((((((decide (n0 < 1)) || (decide (64 < n0))) || (decide (k0 < 1))) || (decide (8 < k0))) || (decide (s0 < 1))) || (decide (8 < s0))) || (decide (p0 < 0))) || (decide (k0 ≤ p0))) == false) then (.int .i64 p2) else undef)), .val ((bif (((((((((decide (n0 < 1)) || (decide (64 < n0))) || (decide (k0 < 1))) || (decide (8 < k0))) || (decide (s0 < 1))) || (decide (8 < s0))) || (decide (p0 < 0))) || (decide (k0 ≤ p0))) == false) then (.bool (decide (p2 < 0))) else undef)), .val (.bool (((((((((decide (n0 < 1)) || (decide (64 < n0))) || (decide (k0 < 1))) || (decide (8 < k0))) || (decide (s0 < 1))) || (decide (8 < s0))) || (decide (p0 < 0))) || (decide (k0 ≤ p0))) || (decide (p2 < 0)))), .val (.bool (((((((((decide (n0 < 1)) || (decide (64 < n0))) || (decide (k0 < 1))) || (decide (8 < k0))) || (decide (s0 < 1))) || (decide (8 < s0))) || (decide (p0 < 0))) || (decide (k0 ≤ p0))) || (decide (p2 < 0)))), .val ((bif ((((((((((decide (n0 < 1)) || (decide (64 < n0))) || (decide (k0 < 1))) || (decide (8 < k0))) || (decide (s0 < 1))) || (decide (8 < s0))) || (decide (p0 < 0))) || (decide (k0 ≤ p0))) || (decide (p2 < 0))) == false) then (.int .i64 0) else undef)), .val ((bif ((((((((((decide (n0 < 1)) || (decide (64 < n0))) || (decide (k0 < 1))) || (decide (8 < k0))) || (decide (s0 < 1))) || (decide (8 < s0))) || (decide (p0 < 0))) || (decide (k0 ≤ p0))) || (decide (p2 < 0))) == false) then (.int .i64 (2)) else undef)), .val ((bif ((((((((((decide (n0 < 1)) || (decide (64 < n0))) || (decide (k0 < 1))) || (decide (8 < k0))) || (decide (s0 < 1))) || (decide (8 < s0))) || (decide (p0 < 0))) || (decide (k0 ≤ p0))) || (decide (p2 < 0))) == false) then (.pointer (some ⟨w.heap.size + 1 + 1 + 1, 2, none⟩)) else undef)), .val ((bif ((((((((((decide (n0 < 1)) || (decide (64 < n0))) || (decide (k0 < 1))) || (decide (8 < k0))) || (decide (s0 < 1))) || (decide (8 < s0))) || (decide (p0 < 0))) || (decide (k0 ≤ p0))) || (decide (p2 < 0))) == false) then (.int .i64 p2) else undef)), .val ((bif ((((((((((decide (n0 < 1)) || (decide (64 < n0))) || (decide (k0 < 1))) || (decide (8 < k0))) || (decide (s0 < 1))) || (decide (8 < s0))) || (decide (p0 < 0))) || (decide (k0 ≤ p0))) || (decide (p2 < 0))) == false) then (.int .i64 0) else undef)), .val ((bif ((((((((((decide (n0 < 1)) || (decide (64 < n0))) || (decide (k0 < 1))) || (decide (8 < k0))) || (decide (s0 < 1))) || (decide (8 < s0))) || (decide (p0 < 0))) || (decide (k0 ≤ p0))) || (decide (p2 < 0))) == false) then (.pointer (some ⟨w.heap.size + 1, 0, none⟩)) else undef)), .val ((bif ((((((((((decide (n0 < 1)) || (decide (64 < n0))) || (decide (k0 < 1))) || (decide (8 < k0))) || (decide (s0 < 1))) || (decide (8 < s0))) || (decide (p0 < 0))) || (decide (k0 ≤ p0))) || (decide (p2 < 0))) == false) then (.int .i64 k0) else undef)), .val ((bif ((((((((((decide (n0 < 1)) || (decide (64 < n0))) || (decide (k0 < 1))) || (decide (8 < k0))) || (decide (s0 < 1))) || (decide (8 < s0))) || (decide (p0 < 0))) || (decide (k0 ≤ p0))) || (decide (p2 < 0))) == false) then (.bool (decide (k0 ≤ p2))) else undef)), .val (.bool (badB n0 k0 s0 p0 p2))] (fun W => O4 n0 n1 k0 k1 s0 s1 p0 p1 p2 p3 w W) rfl (by kernel_rfl) J.drew ?_ ?_
  · intro vs W hG b hb
    have e4 : b.eval (.tmp 4) = .pointer (some ⟨w.heap.size, 0, none⟩) := (congrArg (fun x => Act.eval x (.tmp 4)) hb).trans ((fill_out _ 0 _ (by kernel_rfl)).trans rfl)
    have e5 : b.eval (.tmp 5) = .pointer (some ⟨w.heap.size + 1, 0, none⟩) := (congrArg (fun x => Act.eval x (.tmp 5)) hb).trans ((fill_out _ 0 _ (by kernel_rfl)).trans rfl)
    have e6 : b.eval (.tmp 6) = .pointer (some ⟨w.heap.size + 1 + 1, 0, none⟩) := (congrArg (fun x => Act.eval x (.tmp 6)) hb).trans ((fill_out _ 0 _ (by kernel_rfl)).trans rfl)
    have e7 : b.eval (.tmp 7) = .pointer (some ⟨w.heap.size + 1 + 1 + 1, 0, none⟩) := (congrArg (fun x => Act.eval x (.tmp 7)) hb).trans ((fill_out _ 0 _ (by kernel_rfl)).trans rfl)
    have e9 : b.eval (.tmp 9) = .int .i64 0 := (congrArg (fun x => Act.eval x (.tmp 9)) hb).trans ((fill_out _ 0 _ (by kernel_rfl)).trans rfl)
    have i14 : b.eval (.tmp 14) = vs 0 := (congrArg (fun x => Act.eval x (.tmp 14)) hb).trans ((fill_in _ 0 0 _ _ 14 (by kernel_rfl) rfl rfl (by simp)).trans (congrArg vs (Nat.zero_add _)))
    have i15 : b.eval (.tmp 15) = vs 1 := (congrArg (fun x => Act.eval x (.tmp 15)) hb).trans ((fill_in _ 0 1 _ _ 15 (by kernel_rfl) rfl rfl (by simp)).trans (congrArg vs (Nat.zero_add _)))
    have i16 : b.eval (.tmp 16) = vs 2 := (congrArg (fun x => Act.eval x (.tmp 16)) hb).trans ((fill_in _ 0 2 _ _ 16 (by kernel_rfl) rfl rfl (by simp)).trans (congrArg vs (Nat.zero_add _)))
    have i17 : b.eval (.tmp 17) = vs 3 := (congrArg (fun x => Act.eval x (.tmp 17)) hb).trans ((fill_in _ 0 3 _ _ 17 (by kernel_rfl) rfl rfl (by simp)).trans (congrArg vs (Nat.zero_add _)))
    have i18 : b.eval (.tmp 18) = vs 4 := (congrArg (fun x => Act.eval x (.tmp 18)) hb).trans ((fill_in _ 0 4 _ _ 18 (by kernel_rfl) rfl rfl (by simp)).trans (congrArg vs (Nat.zero_add _)))
    have i19 : b.eval (.tmp 19) = vs 5 := (congrArg (fun x => Act.eval x (.tmp 19)) hb).trans ((fill_in _ 0 5 _ _ 19 (by kernel_rfl) rfl rfl (by simp)).trans (congrArg vs (Nat.zero_add _)))
    have i20 : b.eval (.tmp 20) = vs 6 := (congrArg (fun x => Act.eval x (.tmp 20)) hb).trans ((fill_in _ 0 6 _ _ 20 (by kernel_rfl) rfl rfl (by simp)).trans (congrArg vs (Nat.zero_add _)))
    have i21 : b.eval (.tmp 21) = vs 7 := (congrArg (fun x => Act.eval x (.tmp 21)) hb).trans ((fill_in _ 0 7 _ _ 21 (by kernel_rfl) rfl rfl (by simp)).trans (congrArg vs (Nat.zero_add _)))
    have i22 : b.eval (.tmp 22) = vs 8 := (congrArg (fun x => Act.eval x (.tmp 22)) hb).trans ((fill_in _ 0 8 _ _ 22 (by kernel_rfl) rfl rfl (by simp)).trans (congrArg vs (Nat.zero_add _)))
    have i23 : b.eval (.tmp 23) = vs 9 := (congrArg (fun x => Act.eval x (.tmp 23)) hb).trans ((fill_in _ 0 9 _ _ 23 (by kernel_rfl) rfl rfl (by simp)).trans (congrArg vs (Nat.zero_add _)))
    have i24 : b.eval (.tmp 24) = vs 10 := (congrArg (fun x => Act.eval x (.tmp 24)) hb).trans ((fill_in _ 0 10 _ _ 24 (by kernel_rfl) rfl rfl (by simp)).trans (congrArg vs (Nat.zero_add _)))
    have i25 : b.eval (.tmp 25) = vs 11 := (congrArg (fun x => Act.eval x (.tmp 25)) hb).trans ((fill_in _ 0 11 _ _ 25 (by kernel_rfl) rfl rfl (by simp)).trans (congrArg vs (Nat.zero_add _)))
    have i26 : b.eval (.tmp 26) = vs 12 := (congrArg (fun x => Act.eval x (.tmp 26)) hb).trans ((fill_in _ 0 12 _ _ 26 (by kernel_rfl) rfl rfl (by simp)).trans (congrArg vs (Nat.zero_add _)))
    have i27 : b.eval (.tmp 27) = vs 13 := (congrArg (fun x => Act.eval x (.tmp 27)) hb).trans ((fill_in _ 0 13 _ _ 27 (by kernel_rfl) rfl rfl (by simp)).trans (congrArg vs (Nat.zero_add _)))
    have i28 : b.eval (.tmp 28) = vs 14 := (congrArg (fun x => Act.eval x (.tmp 28)) hb).trans ((fill_in _ 0 14 _ _ 28 (by kernel_rfl) rfl rfl (by simp)).trans (congrArg vs (Nat.zero_add _)))
    have i29 : b.eval (.tmp 29) = vs 15 := (congrArg (fun x => Act.eval x (.tmp 29)) hb).trans ((fill_in _ 0 15 _ _ 29 (by kernel_rfl) rfl rfl (by simp)).trans (congrArg vs (Nat.zero_add _)))
    have i30 : b.eval (.tmp 30) = vs 16 := (congrArg (fun x => Act.eval x (.tmp 30)) hb).trans ((fill_in _ 0 16 _ _ 30 (by kernel_rfl) rfl rfl (by simp)).trans (congrArg vs (Nat.zero_add _)))
    have i31 : b.eval (.tmp 31) = vs 17 := (congrArg (fun x => Act.eval x (.tmp 31)) hb).trans ((fill_in _ 0 17 _ _ 31 (by kernel_rfl) rfl rfl (by simp)).trans (congrArg vs (Nat.zero_add _)))
    have i32 : b.eval (.tmp 32) = vs 18 := (congrArg (fun x => Act.eval x (.tmp 32)) hb).trans ((fill_in _ 0 18 _ _ 32 (by kernel_rfl) rfl rfl (by simp)).trans (congrArg vs (Nat.zero_add _)))
    have i33 : b.eval (.tmp 33) = vs 19 := (congrArg (fun x => Act.eval x (.tmp 33)) hb).trans ((fill_in _ 0 19 _ _ 33 (by kernel_rfl) rfl rfl (by simp)).trans (congrArg vs (Nat.zero_add _)))
    have i34 : b.eval (.tmp 34) = vs 20 := (congrArg (fun x => Act.eval x (.tmp 34)) hb).trans ((fill_in _ 0 20 _ _ 34 (by kernel_rfl) rfl rfl (by simp)).trans (congrArg vs (Nat.zero_add _)))
    have i35 : b.eval (.tmp 35) = vs 21 := (congrArg (fun x => Act.eval x (.tmp 35)) hb).trans ((fill_in _ 0 21 _ _ 35 (by kernel_rfl) rfl rfl (by simp)).trans (congrArg vs (Nat.zero_add _)))
    have i36 : b.eval (.tmp 36) = vs 22 := (congrArg (fun x => Act.eval x (.tmp 36)) hb).trans ((fill_in _ 0 22 _ _ 36 (by kernel_rfl) rfl rfl (by simp)).trans (congrArg vs (Nat.zero_add _)))
    have i37 : b.eval (.tmp 37) = vs 23 := (congrArg (fun x => Act.eval x (.tmp 37)) hb).trans ((fill_in _ 0 23 _ _ 37 (by kernel_rfl) rfl rfl (by simp)).trans (congrArg vs (Nat.zero_add _)))
    have i38 : b.eval (.tmp 38) = vs 24 := (congrArg (fun x => Act.eval x (.tmp 38)) hb).trans ((fill_in _ 0 24 _ _ 38 (by kernel_rfl) rfl rfl (by simp)).trans (congrArg vs (Nat.zero_add _)))
    have i39 : b.eval (.tmp 39) = vs 25 := (congrArg (fun x => Act.eval x (.tmp 39)) hb).trans ((fill_in _ 0 25 _ _ 39 (by kernel_rfl) rfl rfl (by simp)).trans (congrArg vs (Nat.zero_add _)))
    have i40 : b.eval (.tmp 40) = vs 26 := (congrArg (fun x => Act.eval x (.tmp 40)) hb).trans ((fill_in _ 0 26 _ _ 40 (by kernel_rfl) rfl rfl (by simp)).trans (congrArg vs (Nat.zero_add _)))
    have i41 : b.eval (.tmp 41) = vs 27 := (congrArg (fun x => Act.eval x (.tmp 41)) hb).trans ((fill_in _ 0 27 _ _ 41 (by kernel_rfl) rfl rfl (by simp)).trans (congrArg vs (Nat.zero_add _)))
    have i42 : b.eval (.tmp 42) = vs 28 := (congrArg (fun x => Act.eval x (.tmp 42)) hb).trans ((fill_in _ 0 28 _ _ 42 (by kernel_rfl) rfl rfl (by simp)).trans (congrArg vs (Nat.zero_add _)))
    have i43 : b.eval (.tmp 43) = vs 29 := (congrArg (fun x => Act.eval x (.tmp 43)) hb).trans ((fill_in _ 0 29 _ _ 43 (by kernel_rfl) rfl rfl (by simp)).trans (congrArg vs (Nat.zero_add _)))
    have i44 : b.eval (.tmp 44) = vs 30 := (congrArg (fun x => Act.eval x (.tmp 44)) hb).trans ((fill_in _ 0 30 _ _ 44 (by kernel_rfl) rfl rfl (by simp)).trans (congrArg vs (Nat.zero_add _)))
    have i45 : b.eval (.tmp 45) = vs 31 := (congrArg (fun x => Act.eval x (.tmp 45)) hb).trans ((fill_in _ 0 31 _ _ 45 (by kernel_rfl) rfl rfl (by simp)).trans (congrArg vs (Nat.zero_add _)))
    have i46 : b.eval (.tmp 46) = vs 32 := (congrArg (fun x => Act.eval x (.tmp 46)) hb).trans ((fill_in _ 0 32 _ _ 46 (by kernel_rfl) rfl rfl (by simp)).trans (congrArg vs (Nat.zero_add _)))
    have i47 : b.eval (.tmp 47) = vs 33 := (congrArg (fun x => Act.eval x (.tmp 47)) hb).trans ((fill_in _ 0 33 _ _ 47 (by kernel_rfl) rfl rfl (by simp)).trans (congrArg vs (Nat.zero_add _)))
    have i48 : b.eval (.tmp 48) = vs 34 := (congrArg (fun x => Act.eval x (.tmp 48)) hb).trans ((fill_in _ 0 34 _ _ 48 (by kernel_rfl) rfl rfl (by simp)).trans (congrArg vs (Nat.zero_add _)))
    have i49 : b.eval (.tmp 49) = vs 35 := (congrArg (fun x => Act.eval x (.tmp 49)) hb).trans ((fill_in _ 0 35 _ _ 49 (by kernel_rfl) rfl rfl (by simp)).trans (congrArg vs (Nat.zero_add _)))
    have i50 : b.eval (.tmp 50) = vs 36 := (congrArg (fun x => Act.eval x (.tmp 50)) hb).trans ((fill_in _ 0 36 _ _ 50 (by kernel_rfl) rfl rfl (by simp)).trans (congrArg vs (Nat.zero_add _)))
    have i51 : b.eval (.tmp 51) = vs 37 := (congrArg (fun x => Act.eval x (.tmp 51)) hb).trans ((fill_in _ 0 37 _ _ 51 (by kernel_rfl) rfl rfl (by simp)).trans (congrArg vs (Nat.zero_add _)))
    have i52 : b.eval (.tmp 52) = vs 38 := (congrArg (fun x => Act.eval x (.tmp 52)) hb).trans ((fill_in _ 0 38 _ _ 52 (by kernel_rfl) rfl rfl (by simp)).trans (congrArg vs (Nat.zero_add _)))
    have i53 : b.eval (.tmp 53) = vs 39 := (congrArg (fun x => Act.eval x (.tmp 53)) hb).trans ((fill_in _ 0 39 _ _ 53 (by kernel_rfl) rfl rfl (by simp)).trans (congrArg vs (Nat.zero_add _)))
    have i54 : b.eval (.tmp 54) = vs 40 := (congrArg (fun x => Act.eval x (.tmp 54)) hb).trans ((fill_in _ 0 40 _ _ 54 (by kernel_rfl) rfl rfl (by simp)).trans (congrArg vs (Nat.zero_add _)))
    have i55 : b.eval (.tmp 55) = vs 41 := (congrArg (fun x => Act.eval x (.tmp 55)) hb).trans ((fill_in _ 0 41 _ _ 55 (by kernel_rfl) rfl rfl (by simp)).trans (congrArg vs (Nat.zero_add _)))
    have i56 : b.eval (.tmp 56) = vs 42 := (congrArg (fun x => Act.eval x (.tmp 56)) hb).trans ((fill_in _ 0 42 _ _ 56 (by kernel_rfl) rfl rfl (by simp)).trans (congrArg vs (Nat.zero_add _)))
    have i57 : b.eval (.tmp 57) = vs 43 := (congrArg (fun x => Act.eval x (.tmp 57)) hb).trans ((fill_in _ 0 43 _ _ 57 (by kernel_rfl) rfl rfl (by simp)).trans (congrArg vs (Nat.zero_add _)))
    have i58 : b.eval (.tmp 58) = vs 44 := (congrArg (fun x => Act.eval x (.tmp 58)) hb).trans ((fill_in _ 0 44 _ _ 58 (by kernel_rfl) rfl rfl (by simp)).trans (congrArg vs (Nat.zero_add _)))
    have i59 : b.eval (.tmp 59) = vs 45 := (congrArg (fun x => Act.eval x (.tmp 59)) hb).trans ((fill_in _ 0 45 _ _ 59 (by kernel_rfl) rfl rfl (by simp)).trans (congrArg vs (Nat.zero_add _)))
    have i60 : b.eval (.tmp 60) = vs 46 := (congrArg (fun x => Act.eval x (.tmp 60)) hb).trans ((fill_in _ 0 46 _ _ 60 (by kernel_rfl) rfl rfl (by simp)).trans (congrArg vs (Nat.zero_add _)))
    have i61 : b.eval (.tmp 61) = vs 47 := (congrArg (fun x => Act.eval x (.tmp 61)) hb).trans ((fill_in _ 0 47 _ _ 61 (by kernel_rfl) rfl rfl (by simp)).trans (congrArg vs (Nat.zero_add _)))
    have i62 : b.eval (.tmp 62) = vs 48 := (congrArg (fun x => Act.eval x (.tmp 62)) hb).trans ((fill_in _ 0 48 _ _ 62 (by kernel_rfl) rfl rfl (by simp)).trans (congrArg vs (Nat.zero_add _)))
    have i63 : b.eval (.tmp 63) = vs 49 := (congrArg (fun x => Act.eval x (.tmp 63)) hb).trans ((fill_in _ 0 49 _ _ 63 (by kernel_rfl) rfl rfl (by simp)).trans (congrArg vs (Nat.zero_add _)))
    have i64 : b.eval (.tmp 64) = vs 50 := (congrArg (fun x => Act.eval x (.tmp 64)) hb).trans ((fill_in _ 0 50 _ _ 64 (by kernel_rfl) rfl rfl (by simp)).trans (congrArg vs (Nat.zero_add _)))
    have i65 : b.eval (.tmp 65) = vs 51 := (congrArg (fun x => Act.eval x (.tmp 65)) hb).trans ((fill_in _ 0 51 _ _ 65 (by kernel_rfl) rfl rfl (by simp)).trans (congrArg vs (Nat.zero_add _)))
    have i66 : b.eval (.tmp 66) = vs 52 := (congrArg (fun x => Act.eval x (.tmp 66)) hb).trans ((fill_in _ 0 52 _ _ 66 (by kernel_rfl) rfl rfl (by simp)).trans (congrArg vs (Nat.zero_add _)))
    have i67 : b.eval (.tmp 67) = vs 53 := (congrArg (fun x => Act.eval x (.tmp 67)) hb).trans ((fill_in _ 0 53 _ _ 67 (by kernel_rfl) rfl rfl (by simp)).trans (congrArg vs (Nat.zero_add _)))
    have i68 : b.eval (.tmp 68) = vs 54 := (congrArg (fun x => Act.eval x (.tmp 68)) hb).trans ((fill_in _ 0 54 _ _ 68 (by kernel_rfl) rfl rfl (by simp)).trans (congrArg vs (Nat.zero_add _)))
    have i69 : b.eval (.tmp 69) = vs 55 := (congrArg (fun x => Act.eval x (.tmp 69)) hb).trans ((fill_in _ 0 55 _ _ 69 (by kernel_rfl) rfl rfl (by simp)).trans (congrArg vs (Nat.zero_add _)))
    have i70 : b.eval (.tmp 70) = vs 56 := (congrArg (fun x => Act.eval x (.tmp 70)) hb).trans ((fill_in _ 0 56 _ _ 70 (by kernel_rfl) rfl rfl (by simp)).trans (congrArg vs (Nat.zero_add _)))
    have i71 : b.eval (.tmp 71) = vs 57 := (congrArg (fun x => Act.eval x (.tmp 71)) hb).trans ((fill_in _ 0 57 _ _ 71 (by kernel_rfl) rfl rfl (by simp)).trans (congrArg vs (Nat.zero_add _)))
    have i72 : b.eval (.tmp 72) = vs 58 := (congrArg (fun x => Act.eval x (.tmp 72)) hb).trans ((fill_in _ 0 58 _ _ 72 (by kernel_rfl) rfl rfl (by simp)).trans (congrArg vs (Nat.zero_add _)))
    have i73 : b.eval (.tmp 73) = vs 59 := (congrArg (fun x => Act.eval x (.tmp 73)) hb).trans ((fill_in _ 0 59 _ _ 73 (by kernel_rfl) rfl rfl (by simp)).trans (congrArg vs (Nat.zero_add _)))
    have i74 : b.eval (.tmp 74) = vs 60 := (congrArg (fun x => Act.eval x (.tmp 74)) hb).trans ((fill_in _ 0 60 _ _ 74 (by kernel_rfl) rfl rfl (by simp)).trans (congrArg vs (Nat.zero_add _)))
    have i75 : b.eval (.tmp 75) = vs 61 := (congrArg (fun x => Act.eval x (.tmp 75)) hb).trans ((fill_in _ 0 61 _ _ 75 (by kernel_rfl) rfl rfl (by simp)).trans (congrArg vs (Nat.zero_add _)))
    have i76 : b.eval (.tmp 76) = vs 62 := (congrArg (fun x => Act.eval x (.tmp 76)) hb).trans ((fill_in _ 0 62 _ _ 76 (by kernel_rfl) rfl rfl (by simp)).trans (congrArg vs (Nat.zero_add _)))
    have i77 : b.eval (.tmp 77) = vs 63 := (congrArg (fun x => Act.eval x (.tmp 77)) hb).trans ((fill_in _ 0 63 _ _ 77 (by kernel_rfl) rfl rfl (by simp)).trans (congrArg vs (Nat.zero_add _)))
    have i78 : b.eval (.tmp 78) = vs 64 := (congrArg (fun x => Act.eval x (.tmp 78)) hb).trans ((fill_in _ 0 64 _ _ 78 (by kernel_rfl) rfl rfl (by simp)).trans (congrArg vs (Nat.zero_add _)))
    clear hb
    refine And.intro ?_ (And.intro ?_ (And.intro ?_ (And.intro ?_ (And.intro ?_ (And.intro ?_ (And.intro ?_ (And.intro ?_ (And.intro ?_ (And.intro ?_ (And.intro ?_ (And.intro ?_ (And.intro ?_ (And.intro ?_ (And.intro ?_ (And.intro ?_ (And.intro ?_ (And.intro ?_ (And.intro ?_ (And.intro ?_ (And.intro ?_ (And.intro ?_ (And.intro ?_ (And.intro ?_ (And.intro ?_ (And.intro ?_ (And.intro ?_ (And.intro ?_ (And.intro ?_ (And.intro ?_ (And.intro ?_ (And.intro ?_ (And.intro ?_ (And.intro ?_ (And.intro ?_ (And.intro ?_ (And.intro ?_ (And.intro ?_ (And.intro ?_ (And.intro ?_ (And.intro ?_ (And.intro ?_ (And.intro ?_ (And.intro ?_ (And.intro ?_ (And.intro ?_ (And.intro ?_ (And.intro ?_ (And.intro ?_ (And.intro ?_ (And.intro ?_ (And.intro ?_ (And.intro ?_ (And.intro ?_ (And.intro ?_ (And.intro ?_ (And.intro ?_ (And.intro ?_ (And.intro ?_ (And.intro ?_ (And.intro ?_ (And.intro ?_ (And.intro ?_ (And.intro ?_ (And.intro ?_ (And.intro ?_ (trivial))))))))))))))))))))))))))))))))))))))))))))))))))))))))))))))))))
    · intro hp K hK
      refine g_no rfl ?_
      exact st_move (.inl rfl) (e9) (hK _ _ rfl hG (Below.refl _ _))
    · intro hp K hK
      refine g_no rfl ?_
      have e14 : b.eval (.tmp 14) = .int .i64 0 := i14.trans (hp 0 (by kernel_rfl))
      exact st_index rfl (e4) (e14) (by kernel_rfl) (hK _ _ rfl hG (Below.refl _ _))
    · intro hp K hK
      refine g_no rfl ?_
      have e15 : b.eval (.tmp 15) = .pointer (some ⟨w.heap.size, 0, none⟩) := i15.trans (hp 1 (by kernel_rfl))
      exact st_load rfl (e15) (ld1 ((blk_cell hG.b0 0).trans rfl)) (hK _ _ rfl hG (Below.refl _ _))
    · intro hp K hK
      refine g_no rfl ?_
      have e16 : b.eval (.tmp 16) = .int .i64 n0 := i16.trans (hp 2 (by kernel_rfl))
      exact st_bin rfl (e16) (eval_const _) b_lss (hK _ _ rfl hG (Below.refl _ _))
    · intro hp K hK
      refine g_no rfl ?_
      have e17 : b.eval (.tmp 17) = .bool (decide (n0 < 1)) := i17.trans (hp 3 (by kernel_rfl))
      exact st_move (.inl rfl) (e17) (hK _ _ rfl hG (Below.refl _ _))
    · intro hp K hK
      refine g_is (j := 4) (want := false) (c := decide (n0 < 1)) rfl (yielded_of (d := 18) rfl rfl (i18.trans (hp 4 (by kernel_rfl)))) (fun hb => ?_) (fun hb => hK _ _ (cond_no hb) hG (Below.refl _ _))
      exact st_move (.inl rfl) (e9) (hK _ _ (cond_yes hb).symm hG (Below.refl _ _))
    · intro hp K hK
      refine g_is (j := 4) (want := false) (c := decide (n0 < 1)) rfl (yielded_of (d := 18) rfl rfl (i18.trans (hp 4 (by kernel_rfl)))) (fun hb => ?_) (fun hb => hK _ _ (cond_no hb) hG (Below.refl _ _))
      have e19 : b.eval (.tmp 19) = (bif ((decide (n0 < 1)) == false) then (.int .i64 0) else undef) := i19.trans (hp 5 (by kernel_rfl))
      replace e19 := e19.trans (cond_yes hb)
      exact st_index rfl (e4) (e19) (by kernel_rfl) (hK _ _ (cond_yes hb).symm hG (Below.refl _ _))
    · intro hp K hK
      refine g_is (j := 4) (want := false) (c := decide (n0 < 1)) rfl (yielded_of (d := 18) rfl rfl (i18.trans (hp 4 (by kernel_rfl)))) (fun hb => ?_) (fun hb => hK _ _ (cond_no hb) hG (Below.refl _ _))
      have e20 : b.eval (.tmp 20) = (bif ((decide (n0 < 1)) == false) then (.pointer (some ⟨w.heap.size, 0, none⟩)) else undef) := i20.trans (hp 6 (by kernel_rfl))
      replace e20 := e20.trans (cond_yes hb)
      exact st_load rfl (e20) (ld1 ((blk_cell hG.b0 0).trans rfl)) (hK _ _ (cond_yes hb).symm hG (Below.refl _ _))
    · intro hp K hK
      refine g_is (j := 4) (want := false) (c := decide (n0 < 1)) rfl (yielded_of (d := 18) rfl rfl (i18.trans (hp 4 (by kernel_rfl)))) (fun hb => ?_) (fun hb => hK _ _ (cond_no hb) hG (Below.refl _ _))
      have e21 : b.eval (.tmp 21) = (bif ((decide (n0 < 1)) == false) then (.int .i64 n0) else undef) := i21.trans (hp 7 (by kernel_rfl))
      replace e21 := e21.trans (cond_yes hb)
      exact st_bin rfl (e21) (eval_const _) b_gtr (hK _ _ (cond_yes hb).symm hG (Below.refl _ _))
    · intro hp K hK
      refine g_no rfl ?_
      have e18 : b.eval (.tmp 18) = .bool (decide (n0 < 1)) := i18.trans (hp 4 (by kernel_rfl))
      have e22 : b.eval (.tmp 22) = (bif ((decide (n0 < 1)) == false) then (.bool (decide (64 < n0))) else undef) := i22.trans (hp 8 (by kernel_rfl))
      exact st_pick rfl (e18) (by first | (rw [e22]; exact pick_or) | (rw [show b.eval (Operand.tmp 22) = _ from eval_const _]; exact pick_or)) (hK _ _ rfl hG (Below.refl _ _))
    · intro hp K hK
      refine g_no rfl ?_
      have e23 : b.eval (.tmp 23) = .bool ((decide (n0 < 1)) || (decide (64 < n0))) := i23.trans (hp 9 (by kernel_rfl))
      exact st_move (.inl rfl) (e23) (hK _ _ rfl hG (Below.refl _ _))
    · intro hp K hK
      refine g_is (j := 10) (want := false) (c := (decide (n0 < 1)) || (decide (64 < n0))) rfl (yielded_of (d := 24) rfl rfl (i24.trans (hp 10 (by kernel_rfl)))) (fun hb => ?_) (fun hb => hK _ _ (cond_no hb) hG (Below.refl _ _))
      exact st_move (.inl rfl) (e9) (hK _ _ (cond_yes hb).symm hG (Below.refl _ _))
    · intro hp K hK
      refine g_is (j := 10) (want := false) (c := (decide (n0 < 1)) || (decide (64 < n0))) rfl (yielded_of (d := 24) rfl rfl (i24.trans (hp 10 (by kernel_rfl)))) (fun hb => ?_) (fun hb => hK _ _ (cond_no hb) hG (Below.refl _ _))
      have e25 : b.eval (.tmp 25) = (bif (((decide (n0 < 1)) || (decide (64 < n0))) == false) then (.int .i64 0) else undef) := i25.trans (hp 11 (by kernel_rfl))
      replace e25 := e25.trans (cond_yes hb)
      exact st_index rfl (e5) (e25) (by kernel_rfl) (hK _ _ (cond_yes hb).symm hG (Below.refl _ _))
    · intro hp K hK
      refine g_is (j := 10) (want := false) (c := (decide (n0 < 1)) || (decide (64 < n0))) rfl (yielded_of (d := 24) rfl rfl (i24.trans (hp 10 (by kernel_rfl)))) (fun hb => ?_) (fun hb => hK _ _ (cond_no hb) hG (Below.refl _ _))
      have e26 : b.eval (.tmp 26) = (bif (((decide (n0 < 1)) || (decide (64 < n0))) == false) then (.pointer (some ⟨w.heap.size + 1, 0, none⟩)) else undef) := i26.trans (hp 12 (by kernel_rfl))
      replace e26 := e26.trans (cond_yes hb)
      exact st_load rfl (e26) (ld1 ((blk_cell hG.b1 0).trans rfl)) (hK _ _ (cond_yes hb).symm hG (Below.refl _ _))
    · intro hp K hK
      refine g_is (j := 10) (want := false) (c := (decide (n0 < 1)) || (decide (64 < n0))) rfl (yielded_of (d := 24) rfl rfl (i24.trans (hp 10 (by kernel_rfl)))) (fun hb => ?_) (fun hb => hK _ _ (cond_no hb) hG (Below.refl _ _))
      have e27 : b.eval (.tmp 27) = (bif (((decide (n0 < 1)) || (decide (64 < n0))) == false) then (.int .i64 k0) else undef) := i27.trans (hp 13 (by kernel_rfl))
      replace e27 := e27.trans (cond_yes hb)
      exact st_bin rfl (e27) (eval_const _) b_lss (hK _ _ (cond_yes hb).symm hG (Below.refl _ _))
    · intro hp K hK
      refine g_no rfl ?_
      have e24 : b.eval (.tmp 24) = .bool ((decide (n0 < 1)) || (decide (64 < n0))) := i24.trans (hp 10 (by kernel_rfl))
      have e28 : b.eval (.tmp 28) = (bif (((decide (n0 < 1)) || (decide (64 < n0))) == false) then (.bool (decide (k0 < 1))) else undef) := i28.trans (hp 14 (by kernel_rfl))
      exact st_pick rfl (e24) (by first | (rw [e28]; exact pick_or) | (rw [show b.eval (Operand.tmp 28) = _ from eval_const _]; exact pick_or)) (hK _ _ rfl hG (Below.refl _ _))
    · intro hp K hK
      refine g_no rfl ?_
      have e29 : b.eval (.tmp 29) = .bool (((decide (n0 < 1)) || (decide (64 < n0))) || (decide (k0 < 1))) := i29.trans (hp 15 (by kernel_rfl))
      exact st_move (.inl rfl) (e29) (hK _ _ rfl hG (Below.refl _ _))
    · intro hp K hK
      refine g_is (j := 16) (want := false) (c := ((decide (n0 < 1)) || (decide (64 < n0))) || (decide (k0 < 1))) rfl (yielded_of (d := 30) rfl rfl (i30.trans (hp 16 (by kernel_rfl)))) (fun hb => ?_) (fun hb => hK _ _ (cond_no hb) hG (Below.refl _ _))
      exact st_move (.inl rfl) (e9) (hK _ _ (cond_yes hb).symm hG (Below.refl _ _))
    · intro hp K hK
      refine g_is (j := 16) (want := false) (c := ((decide (n0 < 1)) || (decide (64 < n0))) || (decide (k0 < 1))) rfl (yielded_of (d := 30) rfl rfl (i30.trans (hp 16 (by kernel_rfl)))) (fun hb => ?_) (fun hb => hK _ _ (cond_no hb) hG (Below.refl _ _))
      have e31 : b.eval (.tmp 31) = (bif ((((decide (n0 < 1)) || (decide (64 < n0))) || (decide (k0 < 1))) == false) then (.int .i64 0) else undef) := i31.trans (hp 17 (by kernel_rfl))
      replace e31 := e31.trans (cond_yes hb)
      exact st_index rfl (e5) (e31) (by kernel_rfl) (hK _ _ (cond_yes hb).symm hG (Below.refl _ _))
    · intro hp K hK
      refine g_is (j := 16) (want := false) (c := ((decide (n0 < 1)) || (decide (64 < n0))) || (decide (k0 < 1))) rfl (yielded_of (d := 30) rfl rfl (i30.trans (hp 16 (by kernel_rfl)))) (fun hb => ?_) (fun hb => hK _ _ (cond_no hb) hG (Below.refl _ _))
      have e32 : b.eval (.tmp 32) = (bif ((((decide (n0 < 1)) || (decide (64 < n0))) || (decide (k0 < 1))) == false) then (.pointer (some ⟨w.heap.size + 1, 0, none⟩)) else undef) := i32.trans (hp 18 (by kernel_rfl))
      replace e32 := e32.trans (cond_yes hb)
      exact st_load rfl (e32) (ld1 ((blk_cell hG.b1 0).trans rfl)) (hK _ _ (cond_yes hb).symm hG (Below.refl _ _))
    · intro hp K hK
      refine g_is (j := 16) (want := false) (c := ((decide (n0 < 1)) || (decide (64 < n0))) || (decide (k0 < 1))) rfl (yielded_of (d := 30) rfl rfl (i30.trans (hp 16 (by kernel_rfl)))) (fun hb => ?_) (fun hb => hK _ _ (cond_no hb) hG (Below.refl _ _))
      have e33 : b.eval (.tmp 33) = (bif ((((decide (n0 < 1)) || (decide (64 < n0))) || (decide (k0 < 1))) == false) then (.int .i64 k0) else undef) := i33.trans (hp 19 (by kernel_rfl))
      replace e33 := e33.trans (cond_yes hb)
      exact st_bin rfl (e33) (eval_const _) b_gtr (hK _ _ (cond_yes hb).symm hG (Below.refl _ _))
    · intro hp K hK
      refine g_no rfl ?_
      have e30 : b.eval (.tmp 30) = .bool (((decide (n0 < 1)) || (decide (64 < n0))) || (decide (k0 < 1))) := i30.trans (hp 16 (by kernel_rfl))
      have e34 : b.eval (.tmp 34) = (bif ((((decide (n0 < 1)) || (decide (64 < n0))) || (decide (k0 < 1))) == false) then (.bool (decide (8 < k0))) else undef) := i34.trans (hp 20 (by kernel_rfl))
      exact st_pick rfl (e30) (by first | (rw [e34]; exact pick_or) | (rw [show b.eval (Operand.tmp 34) = _ from eval_const _]; exact pick_or)) (hK _ _ rfl hG (Below.refl _ _))
    · intro hp K hK
      refine g_no rfl ?_
      have e35 : b.eval (.tmp 35) = .bool ((((decide (n0 < 1)) || (decide (64 < n0))) || (decide (k0 < 1))) || (decide (8 < k0))) := i35.trans (hp 21 (by kernel_rfl))
      exact st_move (.inl rfl) (e35) (hK _ _ rfl hG (Below.refl _ _))
    · intro hp K hK
      refine g_is (j := 22) (want := false) (c := (((decide (n0 < 1)) || (decide (64 < n0))) || (decide (k0 < 1))) || (decide (8 < k0))) rfl (yielded_of (d := 36) rfl rfl (i36.trans (hp 22 (by kernel_rfl)))) (fun hb => ?_) (fun hb => hK _ _ (cond_no hb) hG (Below.refl _ _))
      exact st_move (.inl rfl) (e9) (hK _ _ (cond_yes hb).symm hG (Below.refl _ _))
    · intro hp K hK
      refine g_is (j := 22) (want := false) (c := (((decide (n0 < 1)) || (decide (64 < n0))) || (decide (k0 < 1))) || (decide (8 < k0))) rfl (yielded_of (d := 36) rfl rfl (i36.trans (hp 22 (by kernel_rfl)))) (fun hb => ?_) (fun hb => hK _ _ (cond_no hb) hG (Below.refl _ _))
      have e37 : b.eval (.tmp 37) = (bif (((((decide (n0 < 1)) || (decide (64 < n0))) || (decide (k0 < 1))) || (decide (8 < k0))) == false) then (.int .i64 0) else undef) := i37.trans (hp 23 (by kernel_rfl))
      replace e37 := e37.trans (cond_yes hb)
      exact st_index rfl (e6) (e37) (by kernel_rfl) (hK _ _ (cond_yes hb).symm hG (Below.refl _ _))
    · intro hp K hK
      refine g_is (j := 22) (want := false) (c := (((decide (n0 < 1)) || (decide (64 < n0))) || (decide (k0 < 1))) || (decide (8 < k0))) rfl (yielded_of (d := 36) rfl rfl (i36.trans (hp 22 (by kernel_rfl)))) (fun hb => ?_) (fun hb => hK _ _ (cond_no hb) hG (Below.refl _ _))
      have e38 : b.eval (.tmp 38) = (bif (((((decide (n0 < 1)) || (decide (64 < n0))) || (decide (k0 < 1))) || (decide (8 < k0))) == false) then (.pointer (some ⟨w.heap.size + 1 + 1, 0, none⟩)) else undef) := i38.trans (hp 24 (by kernel_rfl))
      replace e38 := e38.trans (cond_yes hb)
      exact st_load rfl (e38) (ld1 ((blk_cell hG.b2 0).trans rfl)) (hK _ _ (cond_yes hb).symm hG (Below.refl _ _))
    · intro hp K hK
      refine g_is (j := 22) (want := false) (c := (((decide (n0 < 1)) || (decide (64 < n0))) || (decide (k0 < 1))) || (decide (8 < k0))) rfl (yielded_of (d := 36) rfl rfl (i36.trans (hp 22 (by kernel_rfl)))) (fun hb => ?_) (fun hb => hK _ _ (cond_no hb) hG (Below.refl _ _))
      have e39 : b.eval (.tmp 39) = (bif (((((decide (n0 < 1)) || (decide (64 < n0))) || (decide (k0 < 1))) || (decide (8 < k0))) == false) then (.int .i64 s0) else undef) := i39.trans (hp 25 (by kernel_rfl))
      replace e39 := e39.trans (cond_yes hb)
      exact st_bin rfl (e39) (eval_const _) b_lss (hK _ _ (cond_yes hb).symm hG (Below.refl _ _))
    · intro hp K hK
      refine g_no rfl ?_
      have e36 : b.eval (.tmp 36) = .bool ((((decide (n0 < 1)) || (decide (64 < n0))) || (decide (k0 < 1))) || (decide (8 < k0))) := i36.trans (hp 22 (by kernel_rfl))
      have e40 : b.eval (.tmp 40) = (bif (((((decide (n0 < 1)) || (decide (64 < n0))) || (decide (k0 < 1))) || (decide (8 < k0))) == false) then (.bool (decide (s0 < 1))) else undef) := i40.trans (hp 26 (by kernel_rfl))
      exact st_pick rfl (e36) (by first | (rw [e40]; exact pick_or) | (rw [show b.eval (Operand.tmp 40) = _ from eval_const _]; exact pick_or)) (hK _ _ rfl hG (Below.refl _ _))
    · intro hp K hK
      refine g_no rfl ?_
      have e41 : b.eval (.tmp 41) = .bool (((((decide (n0 < 1)) || (decide (64 < n0))) || (decide (k0 < 1))) || (decide (8 < k0))) || (decide (s0 < 1))) := i41.trans (hp 27 (by kernel_rfl))
      exact st_move (.inl rfl) (e41) (hK _ _ rfl hG (Below.refl _ _))
    · intro hp K hK
      refine g_is (j := 28) (want := false) (c := ((((decide (n0 < 1)) || (decide (64 < n0))) || (decide (k0 < 1))) || (decide (8 < k0))) || (decide (s0 < 1))) rfl (yielded_of (d := 42) rfl rfl (i42.trans (hp 28 (by kernel_rfl)))) (fun hb => ?_) (fun hb => hK _ _ (cond_no hb) hG (Below.refl _ _))
      exact st_move (.inl rfl) (e9) (hK _ _ (cond_yes hb).symm hG (Below.refl _ _))
    · intro hp K hK
      refine g_is (j := 28) (want := false) (c := ((((decide (n0 < 1)) || (decide (64 < n0))) || (decide (k0 < 1))) || (decide (8 < k0))) || (decide (s0 < 1))) rfl (yielded_of (d := 42) rfl rfl (i42.trans (hp 28 (by kernel_rfl)))) (fun hb => ?_) (fun hb => hK _ _ (cond_no hb) hG (Below.refl _ _))
      have e43 : b.eval (.tmp 43) = (bif ((((((decide (n0 < 1)) || (decide (64 < n0))) || (decide (k0 < 1))) || (decide (8 < k0))) || (decide (s0 < 1))) == false) then (.int .i64 0) else undef) := i43.trans (hp 29 (by kernel_rfl))
      replace e43 := e43.trans (cond_yes hb)
      exact st_index rfl (e6) (e43) (by kernel_rfl) (hK _ _ (cond_yes hb).symm hG (Below.refl _ _))
    · intro hp K hK
      refine g_is (j := 28) (want := false) (c := ((((decide (n0 < 1)) || (decide (64 < n0))) || (decide (k0 < 1))) || (decide (8 < k0))) || (decide (s0 < 1))) rfl (yielded_of (d := 42) rfl rfl (i42.trans (hp 28 (by kernel_rfl)))) (fun hb => ?_) (fun hb => hK _ _ (cond_no hb) hG (Below.refl _ _))
      have e44 : b.eval (.tmp 44) = (bif ((((((decide (n0 < 1)) || (decide (64 < n0))) || (decide (k0 < 1))) || (decide (8 < k0))) || (decide (s0 < 1))) == false) then (.pointer (some ⟨w.heap.size + 1 + 1, 0, none⟩)) else undef) := i44.trans (hp 30 (by kernel_rfl))
      replace e44 := e44.trans (cond_yes hb)
      exact st_load rfl (e44) (ld1 ((blk_cell hG.b2 0).trans rfl)) (hK _ _ (cond_yes hb).symm hG (Below.refl _ _))
    · intro hp K hK
      refine g_is (j := 28) (want := false) (c := ((((decide (n0 < 1)) || (decide (64 < n0))) || (decide (k0 < 1))) || (decide (8 < k0))) || (decide (s0 < 1))) rfl (yielded_of (d := 42) rfl rfl (i42.trans (hp 28 (by kernel_rfl)))) (fun hb => ?_) (fun hb => hK _ _ (cond_no hb) hG (Below.refl _ _))
      have e45 : b.eval (.tmp 45) = (bif ((((((decide (n0 < 1)) || (decide (64 < n0))) || (decide (k0 < 1))) || (decide (8 < k0))) || (decide (s0 < 1))) == false) then (.int .i64 s0) else undef) := i45.trans (hp 31 (by kernel_rfl))
      replace e45 := e45.trans (cond_yes hb)
      exact st_bin rfl (e45) (eval_const _) b_gtr (hK _ _ (cond_yes hb).symm hG (Below.refl _ _))
    · intro hp K hK
      refine g_no rfl ?_
      have e42 : b.eval (.tmp 42) = .bool (((((decide (n0 < 1)) || (decide (64 < n0))) || (decide (k0 < 1))) || (decide (8 < k0))) || (decide (s0 < 1))) := i42.trans (hp 28 (by kernel_rfl))
      have e46 : b.eval (.tmp 46) = (bif ((((((decide (n0 < 1)) || (decide (64 < n0))) || (decide (k0 < 1))) || (decide (8 < k0))) || (decide (s0 < 1))) == false) then (.bool (decide (8 < s0))) else undef) := i46.trans (hp 32 (by kernel_rfl))
      exact st_pick rfl (e42) (by first | (rw [e46]; exact pick_or) | (rw [show b.eval (Operand.tmp 46) = _ from eval_const _]; exact pick_or)) (hK _ _ rfl hG (Below.refl _ _))
    · intro hp K hK
      refine g_no rfl ?_
      have e47 : b.eval (.tmp 47) = .bool ((((((decide (n0 < 1)) || (decide (64 < n0))) || (decide (k0 < 1))) || (decide (8 < k0))) || (decide (s0 < 1))) || (decide (8 < s0))) := i47.trans (hp 33 (by kernel_rfl))
      exact st_move (.inl rfl) (e47) (hK _ _ rfl hG (Below.refl _ _))
    · intro hp K hK
      refine g_is (j := 34) (want := false) (c := (((((decide (n0 < 1)) || (decide (64 < n0))) || (decide (k0 < 1))) || (decide (8 < k0))) || (decide (s0 < 1))) || (decide (8 < s0))) rfl (yielded_of (d := 48) rfl rfl (i48.trans (hp 34 (by kernel_rfl)))) (fun hb => ?_) (fun hb => hK _ _ (cond_no hb) hG (Below.refl _ _))
      exact st_move (.inl rfl) (e9) (hK _ _ (cond_yes hb).symm hG (Below.refl _ _))
    · intro hp K hK
      refine g_is (j := 34) (want := false) (c := (((((decide (n0 < 1)) || (decide (64 < n0))) || (decide (k0 < 1))) || (decide (8 < k0))) || (decide (s0 < 1))) || (decide (8 < s0))) rfl (yielded_of (d := 48) rfl rfl (i48.trans (hp 34 (by kernel_rfl)))) (fun hb => ?_) (fun hb => hK _ _ (cond_no hb) hG (Below.refl _ _))
      have e49 : b.eval (.tmp 49) = (bif (((((((decide (n0 < 1)) || (decide (64 < n0))) || (decide (k0 < 1))) || (decide (8 < k0))) || (decide (s0 < 1))) || (decide (8 < s0))) == false) then (.int .i64 0) else undef) := i49.trans (hp 35 (by kernel_rfl))
      replace e49 := e49.trans (cond_yes hb)
      exact st_index rfl (e7) (e49) (by kernel_rfl) (hK _ _ (cond_yes hb).symm hG (Below.refl _ _))
    · intro hp K hK
      refine g_is (j := 34) (want := false) (c := (((((decide (n0 < 1)) || (decide (64 < n0))) || (decide (k0 < 1))) || (decide (8 < k0))) || (decide (s0 < 1))) || (decide (8 < s0))) rfl (yielded_of (d := 48) rfl rfl (i48.trans (hp 34 (by kernel_rfl)))) (fun hb => ?_) (fun hb => hK _ _ (cond_no hb) hG (Below.refl _ _))
      have e50 : b.eval (.tmp 50) = (bif (((((((decide (n0 < 1)) || (decide (64 < n0))) || (decide (k0 < 1))) || (decide (8 < k0))) || (decide (s0 < 1))) || (decide (8 < s0))) == false) then (.pointer (some ⟨w.heap.size + 1 + 1 + 1, 0, none⟩)) else undef) := i50.trans (hp 36 (by kernel_rfl))
      replace e50 := e50.trans (cond_yes hb)
      exact st_load rfl (e50) (ld1 ((blk_cell hG.b3 0).trans rfl)) (hK _ _ (cond_yes hb).symm hG (Below.refl _ _))
    · intro hp K hK
      refine g_is (j := 34) (want := false) (c := (((((decide (n0 < 1)) || (decide (64 < n0))) || (decide (k0 < 1))) || (decide (8 < k0))) || (decide (s0 < 1))) || (decide (8 < s0))) rfl (yielded_of (d := 48) rfl rfl (i48.trans (hp 34 (by kernel_rfl)))) (fun hb => ?_) (fun hb => hK _ _ (cond_no hb) hG (Below.refl _ _))
      have e51 : b.eval (.tmp 51) = (bif (((((((decide (n0 < 1)) || (decide (64 < n0))) || (decide (k0 < 1))) || (decide (8 < k0))) || (decide (s0 < 1))) || (decide (8 < s0))) == false) then (.int .i64 p0) else undef) := i51.trans (hp 37 (by kernel_rfl))
      replace e51 := e51.trans (cond_yes hb)
      exact st_bin rfl (e51) (eval_const _) b_lss (hK _ _ (cond_yes hb).symm hG (Below.refl _ _))
    · intro hp K hK
      refine g_no rfl ?_
      have e48 : b.eval (.tmp 48) = .bool ((((((decide (n0 < 1)) || (decide (64 < n0))) || (decide (k0 < 1))) || (decide (8 < k0))) || (decide (s0 < 1))) || (decide (8 < s0))) := i48.trans (hp 34 (by kernel_rfl))
      have e52 : b.eval (.tmp 52) = (bif (((((((decide (n0 < 1)) || (decide (64 < n0))) || (decide (k0 < 1))) || (decide (8 < k0))) || (decide (s0 < 1))) || (decide (8 < s0))) == false) then (.bool (decide (p0 < 0))) else undef) := i52.trans (hp 38 (by kernel_rfl))
      exact st_pick rfl (e48) (by first | (rw [e52]; exact pick_or) | (rw [show b.eval (Operand.tmp 52) = _ from eval_const _]; exact pick_or)) (hK _ _ rfl hG (Below.refl _ _))
    · intro hp K hK
      refine g_no rfl ?_
      have e53 : b.eval (.tmp 53) = .bool (((((((decide (n0 < 1)) || (decide (64 < n0))) || (decide (k0 < 1))) || (decide (8 < k0))) || (decide (s0 < 1))) || (decide (8 < s0))) || (decide (p0 < 0))) := i53.trans (hp 39 (by kernel_rfl))
      exact st_move (.inl rfl) (e53) (hK _ _ rfl hG (Below.refl _ _))
    · intro hp K hK
      refine g_is (j := 40) (want := false) (c := ((((((decide (n0 < 1)) || (decide (64 < n0))) || (decide (k0 < 1))) || (decide (8 < k0))) || (decide (s0 < 1))) || (decide (8 < s0))) || (decide (p0 < 0))) rfl (yielded_of (d := 54) rfl rfl (i54.trans (hp 40 (by kernel_rfl)))) (fun hb => ?_) (fun hb => hK _ _ (cond_no hb) hG (Below.refl _ _))
      exact st_move (.inl rfl) (e9) (hK _ _ (cond_yes hb).symm hG (Below.refl _ _))
    · intro hp K hK
      refine g_is (j := 40) (want := false) (c := ((((((decide (n0 < 1)) || (decide (64 < n0))) || (decide (k0 < 1))) || (decide (8 < k0))) || (decide (s0 < 1))) || (decide (8 < s0))) || (decide (p0 < 0))) rfl (yielded_of (d := 54) rfl rfl (i54.trans (hp 40 (by kernel_rfl)))) (fun hb => ?_) (fun hb => hK _ _ (cond_no hb) hG (Below.refl _ _))
      have e55 : b.eval (.tmp 55) = (bif ((((((((decide (n0 < 1)) || (decide (64 < n0))) || (decide (k0 < 1))) || (decide (8 < k0))) || (decide (s0 < 1))) || (decide (8 < s0))) || (decide (p0 < 0))) == false) then (.int .i64 0) else undef) := i55.trans (hp 41 (by kernel_rfl))
      replace e55 := e55.trans (cond_yes hb)
      exact st_index rfl (e7) (e55) (by kernel_rfl) (hK _ _ (cond_yes hb).symm hG (Below.refl _ _))
    · intro hp K hK
      refine g_is (j := 40) (want := false) (c := ((((((decide (n0 < 1)) || (decide (64 < n0))) || (decide (k0 < 1))) || (decide (8 < k0))) || (decide (s0 < 1))) || (decide (8 < s0))) || (decide (p0 < 0))) rfl (yielded_of (d := 54) rfl rfl (i54.trans (hp 40 (by kernel_rfl)))) (fun hb => ?_) (fun hb => hK _ _ (cond_no hb) hG (Below.refl _ _))
      have e56 : b.eval (.tmp 56) = (bif ((((((((decide (n0 < 1)) || (decide (64 < n0))) || (decide (k0 < 1))) || (decide (8 < k0))) || (decide (s0 < 1))) || (decide (8 < s0))) || (decide (p0 < 0))) == false) then (.pointer (some ⟨w.heap.size + 1 + 1 + 1, 0, none⟩)) else undef) := i56.trans (hp 42 (by kernel_rfl))
      replace e56 := e56.trans (cond_yes hb)
      exact st_load rfl (e56) (ld1 ((blk_cell hG.b3 0).trans rfl)) (hK _ _ (cond_yes hb).symm hG (Below.refl _ _))
    · intro hp K hK
      refine g_is (j := 40) (want := false) (c := ((((((decide (n0 < 1)) || (decide (64 < n0))) || (decide (k0 < 1))) || (decide (8 < k0))) || (decide (s0 < 1))) || (decide (8 < s0))) || (decide (p0 < 0))) rfl (yielded_of (d := 54) rfl rfl (i54.trans (hp 40 (by kernel_rfl)))) (fun hb => ?_) (fun hb => hK _ _ (cond_no hb) hG (Below.refl _ _))
      exact st_move (.inl rfl) (e9) (hK _ _ (cond_yes hb).symm hG (Below.refl _ _))
    · intro hp K hK
      refine g_is (j := 40) (want := false) (c := ((((((decide (n0 < 1)) || (decide (64 < n0))) || (decide (k0 < 1))) || (decide (8 < k0))) || (decide (s0 < 1))) || (decide (8 < s0))) || (decide (p0 < 0))) rfl (yielded_of (d := 54) rfl rfl (i54.trans (hp 40 (by kernel_rfl)))) (fun hb => ?_) (fun hb => hK _ _ (cond_no hb) hG (Below.refl _ _))
      have e58 : b.eval (.tmp 58) = (bif ((((((((decide (n0 < 1)) || (decide (64 < n0))) || (decide (k0 < 1))) || (decide (8 < k0))) || (decide (s0 < 1))) || (decide (8 < s0))) || (decide (p0 < 0))) == false) then (.int .i64 0) else undef) := i58.trans (hp 44 (by kernel_rfl))
      replace e58 := e58.trans (cond_yes hb)
      exact st_index rfl (e5) (e58) (by kernel_rfl) (hK _ _ (cond_yes hb).symm hG (Below.refl _ _))
    · intro hp K hK
      refine g_is (j := 40) (want := false) (c := ((((((decide (n0 < 1)) || (decide (64 < n0))) || (decide (k0 < 1))) || (decide (8 < k0))) || (decide (s0 < 1))) || (decide (8 < s0))) || (decide (p0 < 0))) rfl (yielded_of (d := 54) rfl rfl (i54.trans (hp 40 (by kernel_rfl)))) (fun hb => ?_) (fun hb => hK _ _ (cond_no hb) hG (Below.refl _ _))
      have e59 : b.eval (.tmp 59) = (bif ((((((((decide (n0 < 1)) || (decide (64 < n0))) || (decide (k0 < 1))) || (decide (8 < k0))) || (decide (s0 < 1))) || (decide (8 < s0))) || (decide (p0 < 0))) == false) then (.pointer (some ⟨w.heap.size + 1, 0, none⟩)) else undef) := i59.trans (hp 45 (by kernel_rfl))
      replace e59 := e59.trans (cond_yes hb)
      exact st_load rfl (e59) (ld1 ((blk_cell hG.b1 0).trans rfl)) (hK _ _ (cond_yes hb).symm hG (Below.refl _ _))
    · intro hp K hK
      refine g_is (j := 40) (want := false) (c := ((((((decide (n0 < 1)) || (decide (64 < n0))) || (decide (k0 < 1))) || (decide (8 < k0))) || (decide (s0 < 1))) || (decide (8 < s0))) || (decide (p0 < 0))) rfl (yielded_of (d := 54) rfl rfl (i54.trans (hp 40 (by kernel_rfl)))) (fun hb => ?_) (fun hb => hK _ _ (cond_no hb) hG (Below.refl _ _))
      have e57 : b.eval (.tmp 57) = (bif ((((((((decide (n0 < 1)) || (decide (64 < n0))) || (decide (k0 < 1))) || (decide (8 < k0))) || (decide (s0 < 1))) || (decide (8 < s0))) || (decide (p0 < 0))) == false) then (.int .i64 p0) else undef) := i57.trans (hp 43 (by kernel_rfl))
      replace e57 := e57.trans (cond_yes hb)
      have e60 : b.eval (.tmp 60) = (bif ((((((((decide (n0 < 1)) || (decide (64 < n0))) || (decide (k0 < 1))) || (decide (8 < k0))) || (decide (s0 < 1))) || (decide (8 < s0))) || (decide (p0 < 0))) == false) then (.int .i64 k0) else undef) := i60.trans (hp 46 (by kernel_rfl))
      replace e60 := e60.trans (cond_yes hb)
      exact st_bin rfl (e57) (e60) b_geq (hK _ _ (cond_yes hb).symm hG (Below.refl _ _))
    · intro hp K hK
      refine g_no rfl ?_
      have e54 : b.eval (.tmp 54) = .bool (((((((decide (n0 < 1)) || (decide (64 < n0))) || (decide (k0 < 1))) || (decide (8 < k0))) || (decide (s0 < 1))) || (decide (8 < s0))) || (decide (p0 < 0))) := i54.trans (hp 40 (by kernel_rfl))
      have e61 : b.eval (.tmp 61) = (bif ((((((((decide (n0 < 1)) || (decide (64 < n0))) || (decide (k0 < 1))) || (decide (8 < k0))) || (decide (s0 < 1))) || (decide (8 < s0))) || (decide (p0 < 0))) == false) then (.bool (decide (k0 ≤ p0))) else undef) := i61.trans (hp 47 (by kernel_rfl))
      exact st_pick rfl (e54) (by first | (rw [e61]; exact pick_or) | (rw [show b.eval (Operand.tmp 61) = _ from eval_const _]; exact pick_or)) (hK _ _ rfl hG (Below.refl _ _))
    · intro hp K hK
      refine g_no rfl ?_
      have e62 : b.eval (.tmp 62) = .bool ((((((((decide (n0 < 1)) || (decide (64 < n0))) || (decide (k0 < 1))) || (decide (8 < k0))) || (decide (s0 < 1))) || (decide (8 < s0))) || (decide (p0 < 0))) || (decide (k0 ≤ p0))) := i62.trans (hp 48 (by kernel_rfl))
      exact st_move (.inl rfl) (e62) (hK _ _ rfl hG (Below.refl _ _))
    · intro hp K hK
      refine g_is (j := 49) (want := false) (c := (((((((decide (n0 < 1)) || (decide (64 < n0))) || (decide (k0 < 1))) || (decide (8 < k0))) || (decide (s0 < 1))) || (decide (8 < s0))) || (decide (p0 < 0))) || (decide (k0 ≤ p0))) rfl (yielded_of (d := 63) rfl rfl (i63.trans (hp 49 (by kernel_rfl)))) (fun hb => ?_) (fun hb => hK _ _ (cond_no hb) hG (Below.refl _ _))
      exact st_move (.inl rfl) (e9) (hK _ _ (cond_yes hb).symm hG (Below.refl _ _))
    · intro hp K hK
      refine g_is (j := 49) (want := false) (c := (((((((decide (n0 < 1)) || (decide (64 < n0))) || (decide (k0 < 1))) || (decide (8 < k0))) || (decide (s0 < 1))) || (decide (8 < s0))) || (decide (p0 < 0))) || (decide (k0 ≤ p0))) rfl (yielded_of (d := 63) rfl rfl (i63.trans (hp 49 (by kernel_rfl)))) (fun hb => ?_) (fun hb => hK _ _ (cond_no hb) hG (Below.refl _ _))
      have e64 : b.eval (.tmp 64) = (bif (((((((((decide (n0 < 1)) || (decide (64 < n0))) || (decide (k0 < 1))) || (decide (8 < k0))) || (decide (s0 < 1))) || (decide (8 < s0))) || (decide (p0 < 0))) || (decide (k0 ≤ p0))) == false) then (.int .i64 0) else undef) := i64.trans (hp 50 (by kernel_rfl))
      replace e64 := e64.trans (cond_yes hb)
      exact st_bin rfl (e64) (eval_const _) (b_add (by first | rfl | exact IntWalk.i64_in _ (by omega))) (hK _ _ (cond_yes hb).symm hG (Below.refl _ _))
    · intro hp K hK
      refine g_is (j := 49) (want := false) (c := (((((((decide (n0 < 1)) || (decide (64 < n0))) || (decide (k0 < 1))) || (decide (8 < k0))) || (decide (s0 < 1))) || (decide (8 < s0))) || (decide (p0 < 0))) || (decide (k0 ≤ p0))) rfl (yielded_of (d := 63) rfl rfl (i63.trans (hp 49 (by kernel_rfl)))) (fun hb => ?_) (fun hb => hK _ _ (cond_no hb) hG (Below.refl _ _))
      have e65 : b.eval (.tmp 65) = (bif (((((((((decide (n0 < 1)) || (decide (64 < n0))) || (decide (k0 < 1))) || (decide (8 < k0))) || (decide (s0 < 1))) || (decide (8 < s0))) || (decide (p0 < 0))) || (decide (k0 ≤ p0))) == false) then (.int .i64 (2)) else undef) := i65.trans (hp 51 (by kernel_rfl))
      replace e65 := e65.trans (cond_yes hb)
      exact st_index rfl (e7) (e65) (by kernel_rfl) (hK _ _ (cond_yes hb).symm hG (Below.refl _ _))
    · intro hp K hK
      refine g_is (j := 49) (want := false) (c := (((((((decide (n0 < 1)) || (decide (64 < n0))) || (decide (k0 < 1))) || (decide (8 < k0))) || (decide (s0 < 1))) || (decide (8 < s0))) || (decide (p0 < 0))) || (decide (k0 ≤ p0))) rfl (yielded_of (d := 63) rfl rfl (i63.trans (hp 49 (by kernel_rfl)))) (fun hb => ?_) (fun hb => hK _ _ (cond_no hb) hG (Below.refl _ _))
      have e66 : b.eval (.tmp 66) = (bif (((((((((decide (n0 < 1)) || (decide (64 < n0))) || (decide (k0 < 1))) || (decide (8 < k0))) || (decide (s0 < 1))) || (decide (8 < s0))) || (decide (p0 < 0))) || (decide (k0 ≤ p0))) == false) then (.pointer (some ⟨w.heap.size + 1 + 1 + 1, 2, none⟩)) else undef) := i66.trans (hp 52 (by kernel_rfl))
      replace e66 := e66.trans (cond_yes hb)
      exact st_load rfl (e66) (ld1 ((blk_cell hG.b3 2).trans rfl)) (hK _ _ (cond_yes hb).symm hG (Below.refl _ _))
    · intro hp K hK
      refine g_is (j := 49) (want := false) (c := (((((((decide (n0 < 1)) || (decide (64 < n0))) || (decide (k0 < 1))) || (decide (8 < k0))) || (decide (s0 < 1))) || (decide (8 < s0))) || (decide (p0 < 0))) || (decide (k0 ≤ p0))) rfl (yielded_of (d := 63) rfl rfl (i63.trans (hp 49 (by kernel_rfl)))) (fun hb => ?_) (fun hb => hK _ _ (cond_no hb) hG (Below.refl _ _))
      have e67 : b.eval (.tmp 67) = (bif (((((((((decide (n0 < 1)) || (decide (64 < n0))) || (decide (k0 < 1))) || (decide (8 < k0))) || (decide (s0 < 1))) || (decide (8 < s0))) || (decide (p0 < 0))) || (decide (k0 ≤ p0))) == false) then (.int .i64 p2) else undef) := i67.trans (hp 53 (by kernel_rfl))
      replace e67 := e67.trans (cond_yes hb)
      exact st_bin rfl (e67) (eval_const _) b_lss (hK _ _ (cond_yes hb).symm hG (Below.refl _ _))
    · intro hp K hK
      refine g_no rfl ?_
      have e63 : b.eval (.tmp 63) = .bool ((((((((decide (n0 < 1)) || (decide (64 < n0))) || (decide (k0 < 1))) || (decide (8 < k0))) || (decide (s0 < 1))) || (decide (8 < s0))) || (decide (p0 < 0))) || (decide (k0 ≤ p0))) := i63.trans (hp 49 (by kernel_rfl))
      have e68 : b.eval (.tmp 68) = (bif (((((((((decide (n0 < 1)) || (decide (64 < n0))) || (decide (k0 < 1))) || (decide (8 < k0))) || (decide (s0 < 1))) || (decide (8 < s0))) || (decide (p0 < 0))) || (decide (k0 ≤ p0))) == false) then (.bool (decide (p2 < 0))) else undef) := i68.trans (hp 54 (by kernel_rfl))
      exact st_pick rfl (e63) (by first | (rw [e68]; exact pick_or) | (rw [show b.eval (Operand.tmp 68) = _ from eval_const _]; exact pick_or)) (hK _ _ rfl hG (Below.refl _ _))
    · intro hp K hK
      refine g_no rfl ?_
      have e69 : b.eval (.tmp 69) = .bool (((((((((decide (n0 < 1)) || (decide (64 < n0))) || (decide (k0 < 1))) || (decide (8 < k0))) || (decide (s0 < 1))) || (decide (8 < s0))) || (decide (p0 < 0))) || (decide (k0 ≤ p0))) || (decide (p2 < 0))) := i69.trans (hp 55 (by kernel_rfl))
      exact st_move (.inl rfl) (e69) (hK _ _ rfl hG (Below.refl _ _))
    · intro hp K hK
      refine g_is (j := 56) (want := false) (c := ((((((((decide (n0 < 1)) || (decide (64 < n0))) || (decide (k0 < 1))) || (decide (8 < k0))) || (decide (s0 < 1))) || (decide (8 < s0))) || (decide (p0 < 0))) || (decide (k0 ≤ p0))) || (decide (p2 < 0))) rfl (yielded_of (d := 70) rfl rfl (i70.trans (hp 56 (by kernel_rfl)))) (fun hb => ?_) (fun hb => hK _ _ (cond_no hb) hG (Below.refl _ _))
      exact st_move (.inl rfl) (e9) (hK _ _ (cond_yes hb).symm hG (Below.refl _ _))
    · intro hp K hK
      refine g_is (j := 56) (want := false) (c := ((((((((decide (n0 < 1)) || (decide (64 < n0))) || (decide (k0 < 1))) || (decide (8 < k0))) || (decide (s0 < 1))) || (decide (8 < s0))) || (decide (p0 < 0))) || (decide (k0 ≤ p0))) || (decide (p2 < 0))) rfl (yielded_of (d := 70) rfl rfl (i70.trans (hp 56 (by kernel_rfl)))) (fun hb => ?_) (fun hb => hK _ _ (cond_no hb) hG (Below.refl _ _))
      have e71 : b.eval (.tmp 71) = (bif ((((((((((decide (n0 < 1)) || (decide (64 < n0))) || (decide (k0 < 1))) || (decide (8 < k0))) || (decide (s0 < 1))) || (decide (8 < s0))) || (decide (p0 < 0))) || (decide (k0 ≤ p0))) || (decide (p2 < 0))) == false) then (.int .i64 0) else undef) := i71.trans (hp 57 (by kernel_rfl))
      replace e71 := e71.trans (cond_yes hb)
      exact st_bin rfl (e71) (eval_const _) (b_add (by first | rfl | exact IntWalk.i64_in _ (by omega))) (hK _ _ (cond_yes hb).symm hG (Below.refl _ _))
    · intro hp K hK
      refine g_is (j := 56) (want := false) (c := ((((((((decide (n0 < 1)) || (decide (64 < n0))) || (decide (k0 < 1))) || (decide (8 < k0))) || (decide (s0 < 1))) || (decide (8 < s0))) || (decide (p0 < 0))) || (decide (k0 ≤ p0))) || (decide (p2 < 0))) rfl (yielded_of (d := 70) rfl rfl (i70.trans (hp 56 (by kernel_rfl)))) (fun hb => ?_) (fun hb => hK _ _ (cond_no hb) hG (Below.refl _ _))
      have e72 : b.eval (.tmp 72) = (bif ((((((((((decide (n0 < 1)) || (decide (64 < n0))) || (decide (k0 < 1))) || (decide (8 < k0))) || (decide (s0 < 1))) || (decide (8 < s0))) || (decide (p0 < 0))) || (decide (k0 ≤ p0))) || (decide (p2 < 0))) == false) then (.int .i64 (2)) else undef) := i72.trans (hp 58 (by kernel_rfl))
      replace e72 := e72.trans (cond_yes hb)
      exact st_index rfl (e7) (e72) (by kernel_rfl) (hK _ _ (cond_yes hb).symm hG (Below.refl _ _))
    · intro hp K hK
      refine g_is (j := 56) (want := false) (c := ((((((((decide (n0 < 1)) || (decide (64 < n0))) || (decide (k0 < 1))) || (decide (8 < k0))) || (decide (s0 < 1))) || (decide (8 < s0))) || (decide (p0 < 0))) || (decide (k0 ≤ p0))) || (decide (p2 < 0))) rfl (yielded_of (d := 70) rfl rfl (i70.trans (hp 56 (by kernel_rfl)))) (fun hb => ?_) (fun hb => hK _ _ (cond_no hb) hG (Below.refl _ _))
      have e73 : b.eval (.tmp 73) = (bif ((((((((((decide (n0 < 1)) || (decide (64 < n0))) || (decide (k0 < 1))) || (decide (8 < k0))) || (decide (s0 < 1))) || (decide (8 < s0))) || (decide (p0 < 0))) || (decide (k0 ≤ p0))) || (decide (p2 < 0))) == false) then (.pointer (some ⟨w.heap.size + 1 + 1 + 1, 2, none⟩)) else undef) := i73.trans (hp 59 (by kernel_rfl))
      replace e73 := e73.trans (cond_yes hb)
      exact st_load rfl (e73) (ld1 ((blk_cell hG.b3 2).trans rfl)) (hK _ _ (cond_yes hb).symm hG (Below.refl _ _))
    · intro hp K hK
      refine g_is (j := 56) (want := false) (c := ((((((((decide (n0 < 1)) || (decide (64 < n0))) || (decide (k0 < 1))) || (decide (8 < k0))) || (decide (s0 < 1))) || (decide (8 < s0))) || (decide (p0 < 0))) || (decide (k0 ≤ p0))) || (decide (p2 < 0))) rfl (yielded_of (d := 70) rfl rfl (i70.trans (hp 56 (by kernel_rfl)))) (fun hb => ?_) (fun hb => hK _ _ (cond_no hb) hG (Below.refl _ _))
      exact st_move (.inl rfl) (e9) (hK _ _ (cond_yes hb).symm hG (Below.refl _ _))
    · intro hp K hK
      refine g_is (j := 56) (want := false) (c := ((((((((decide (n0 < 1)) || (decide (64 < n0))) || (decide (k0 < 1))) || (decide (8 < k0))) || (decide (s0 < 1))) || (decide (8 < s0))) || (decide (p0 < 0))) || (decide (k0 ≤ p0))) || (decide (p2 < 0))) rfl (yielded_of (d := 70) rfl rfl (i70.trans (hp 56 (by kernel_rfl)))) (fun hb => ?_) (fun hb => hK _ _ (cond_no hb) hG (Below.refl _ _))
      have e75 : b.eval (.tmp 75) = (bif ((((((((((decide (n0 < 1)) || (decide (64 < n0))) || (decide (k0 < 1))) || (decide (8 < k0))) || (decide (s0 < 1))) || (decide (8 < s0))) || (decide (p0 < 0))) || (decide (k0 ≤ p0))) || (decide (p2 < 0))) == false) then (.int .i64 0) else undef) := i75.trans (hp 61 (by kernel_rfl))
      replace e75 := e75.trans (cond_yes hb)
      exact st_index rfl (e5) (e75) (by kernel_rfl) (hK _ _ (cond_yes hb).symm hG (Below.refl _ _))
    · intro hp K hK
      refine g_is (j := 56) (want := false) (c := ((((((((decide (n0 < 1)) || (decide (64 < n0))) || (decide (k0 < 1))) || (decide (8 < k0))) || (decide (s0 < 1))) || (decide (8 < s0))) || (decide (p0 < 0))) || (decide (k0 ≤ p0))) || (decide (p2 < 0))) rfl (yielded_of (d := 70) rfl rfl (i70.trans (hp 56 (by kernel_rfl)))) (fun hb => ?_) (fun hb => hK _ _ (cond_no hb) hG (Below.refl _ _))
      have e76 : b.eval (.tmp 76) = (bif ((((((((((decide (n0 < 1)) || (decide (64 < n0))) || (decide (k0 < 1))) || (decide (8 < k0))) || (decide (s0 < 1))) || (decide (8 < s0))) || (decide (p0 < 0))) || (decide (k0 ≤ p0))) || (decide (p2 < 0))) == false) then (.pointer (some ⟨w.heap.size + 1, 0, none⟩)) else undef) := i76.trans (hp 62 (by kernel_rfl))
      replace e76 := e76.trans (cond_yes hb)
      exact st_load rfl (e76) (ld1 ((blk_cell hG.b1 0).trans rfl)) (hK _ _ (cond_yes hb).symm hG (Below.refl _ _))
    · intro hp K hK
      refine g_is (j := 56) (want := false) (c := ((((((((decide (n0 < 1)) || (decide (64 < n0))) || (decide (k0 < 1))) || (decide (8 < k0))) || (decide (s0 < 1))) || (decide (8 < s0))) || (decide (p0 < 0))) || (decide (k0 ≤ p0))) || (decide (p2 < 0))) rfl (yielded_of (d := 70) rfl rfl (i70.trans (hp 56 (by kernel_rfl)))) (fun hb => ?_) (fun hb => hK _ _ (cond_no hb) hG (Below.refl _ _))
      have e74 : b.eval (.tmp 74) = (bif ((((((((((decide (n0 < 1)) || (decide (64 < n0))) || (decide (k0 < 1))) || (decide (8 < k0))) || (decide (s0 < 1))) || (decide (8 < s0))) || (decide (p0 < 0))) || (decide (k0 ≤ p0))) || (decide (p2 < 0))) == false) then (.int .i64 p2) else undef) := i74.trans (hp 60 (by kernel_rfl))
      replace e74 := e74.trans (cond_yes hb)
      have e77 : b.eval (.tmp 77) = (bif ((((((((((decide (n0 < 1)) || (decide (64 < n0))) || (decide (k0 < 1))) || (decide (8 < k0))) || (decide (s0 < 1))) || (decide (8 < s0))) || (decide (p0 < 0))) || (decide (k0 ≤ p0))) || (decide (p2 < 0))) == false) then (.int .i64 k0) else undef) := i77.trans (hp 63 (by kernel_rfl))
      replace e77 := e77.trans (cond_yes hb)
      exact st_bin rfl (e74) (e77) b_geq (hK _ _ (cond_yes hb).symm hG (Below.refl _ _))
    · intro hp K hK
      refine g_no rfl ?_
      have e70 : b.eval (.tmp 70) = .bool (((((((((decide (n0 < 1)) || (decide (64 < n0))) || (decide (k0 < 1))) || (decide (8 < k0))) || (decide (s0 < 1))) || (decide (8 < s0))) || (decide (p0 < 0))) || (decide (k0 ≤ p0))) || (decide (p2 < 0))) := i70.trans (hp 56 (by kernel_rfl))
      have e78 : b.eval (.tmp 78) = (bif ((((((((((decide (n0 < 1)) || (decide (64 < n0))) || (decide (k0 < 1))) || (decide (8 < k0))) || (decide (s0 < 1))) || (decide (8 < s0))) || (decide (p0 < 0))) || (decide (k0 ≤ p0))) || (decide (p2 < 0))) == false) then (.bool (decide (k0 ≤ p2))) else undef) := i78.trans (hp 64 (by kernel_rfl))
      exact st_pick rfl (e70) (by first | (rw [e78]; exact pick_or) | (rw [show b.eval ((Operand.tmp 78)) = _ from eval_const _]; exact pick_or)) (hK _ _ rfl hG (Below.refl _ _))
  intro vs W hG hp b hb
  have q65 : vs 65 = .bool (badB n0 k0 s0 p0 p2) := hp 65 (by decide)
  clear hp
  simp only [fill, Act.put, List.append_eq, List.cons_append, List.nil_append, List.take_succ_cons, List.take_zero, List.setIfInBounds_toArray, List.set_cons_succ, List.set_cons_zero, Nat.reduceAdd, Nat.zero_add, q65] at hb
  subst hb
  refine wpList_nil ?_
  clear q65
  clear J
  have J := Lib.hid hG
  clear hG
  go_wp2
  · go_ret
    exact ⟨by rename_i hbad; rw [show goodV n0 n1 k0 k1 s0 s1 p0 p1 p2 p3 = false from by simp [goodV, hbad]]; rfl, J.out.bel⟩
  have hno0 : badB n0 k0 s0 p0 p2 = false := by assumption
  have B0 := Lib.hid (badB_no hno0)
  have N0 := Lib.hid hno0
  clear hno0
  replace J := J.out
  refine wp_drawn (R := fun W W' => Below W.heap.size W W') 16 [.val (.int .i64 0), .val (.pointer (some ⟨w.heap.size, 0, none⟩)), .val (.int .i64 n0), .val (.int .i64 0), .val (.pointer (some ⟨w.heap.size + 1 + 1 + 1, 0, none⟩)), .val (.int .i64 p0), .val (.int .i64 (n0 + p0)), .val (.int .i64 0), .val (.int .i64 (2)), .val (.pointer (some ⟨w.heap.size + 1 + 1 + 1, 2, none⟩)), .val (.int .i64 p2), .val (.int .i64 ((n0 + p0) + p2)), .val (.int .i64 0), .val (.pointer (some ⟨w.heap.size + 1, 0, none⟩)), .val (.int .i64 k0), .val (.bool (shortB n0 k0 p0 p2))] (fun W => O4 n0 n1 k0 k1 s0 s1 p0 p1 p2 p3 w W) rfl (by kernel_rfl) J.drew ?_ ?_
  · intro vs W hG b hb
    have e4 : b.eval (.tmp 4) = .pointer (some ⟨w.heap.size, 0, none⟩) := (congrArg (fun x => Act.eval x (.tmp 4)) hb).trans ((fill_out _ 0 _ (by kernel_rfl)).trans rfl)
    have e5 : b.eval (.tmp 5) = .pointer (some ⟨w.heap.size + 1, 0, none⟩) := (congrArg (fun x => Act.eval x (.tmp 5)) hb).trans ((fill_out _ 0 _ (by kernel_rfl)).trans rfl)
    have e7 : b.eval (.tmp 7) = .pointer (some ⟨w.heap.size + 1 + 1 + 1, 0, none⟩) := (congrArg (fun x => Act.eval x (.tmp 7)) hb).trans ((fill_out _ 0 _ (by kernel_rfl)).trans rfl)
    have e9 : b.eval (.tmp 9) = .int .i64 0 := (congrArg (fun x => Act.eval x (.tmp 9)) hb).trans ((fill_out _ 0 _ (by kernel_rfl)).trans rfl)
    have i80 : b.eval (.tmp 80) = vs 0 := (congrArg (fun x => Act.eval x (.tmp 80)) hb).trans ((fill_in _ 0 0 _ _ 80 (by kernel_rfl) rfl rfl (by simp)).trans (congrArg vs (Nat.zero_add _)))
    have i81 : b.eval (.tmp 81) = vs 1 := (congrArg (fun x => Act.eval x (.tmp 81)) hb).trans ((fill_in _ 0 1 _ _ 81 (by kernel_rfl) rfl rfl (by simp)).trans (congrArg vs (Nat.zero_add _)))
    have i82 : b.eval (.tmp 82) = vs 2 := (congrArg (fun x => Act.eval x (.tmp 82)) hb).trans ((fill_in _ 0 2 _ _ 82 (by kernel_rfl) rfl rfl (by simp)).trans (congrArg vs (Nat.zero_add _)))
    have i83 : b.eval (.tmp 83) = vs 3 := (congrArg (fun x => Act.eval x (.tmp 83)) hb).trans ((fill_in _ 0 3 _ _ 83 (by kernel_rfl) rfl rfl (by simp)).trans (congrArg vs (Nat.zero_add _)))
    have i84 : b.eval (.tmp 84) = vs 4 := (congrArg (fun x => Act.eval x (.tmp 84)) hb).trans ((fill_in _ 0 4 _ _ 84 (by kernel_rfl) rfl rfl (by simp)).trans (congrArg vs (Nat.zero_add _)))
    have i85 : b.eval (.tmp 85) = vs 5 := (congrArg (fun x => Act.eval x (.tmp 85)) hb).trans ((fill_in _ 0 5 _ _ 85 (by kernel_rfl) rfl rfl (by simp)).trans (congrArg vs (Nat.zero_add _)))
    have i86 : b.eval (.tmp 86) = vs 6 := (congrArg (fun x => Act.eval x (.tmp 86)) hb).trans ((fill_in _ 0 6 _ _ 86 (by kernel_rfl) rfl rfl (by simp)).trans (congrArg vs (Nat.zero_add _)))
    have i87 : b.eval (.tmp 87) = vs 7 := (congrArg (fun x => Act.eval x (.tmp 87)) hb).trans ((fill_in _ 0 7 _ _ 87 (by kernel_rfl) rfl rfl (by simp)).trans (congrArg vs (Nat.zero_add _)))
    have i88 : b.eval (.tmp 88) = vs 8 := (congrArg (fun x => Act.eval x (.tmp 88)) hb).trans ((fill_in _ 0 8 _ _ 88 (by kernel_rfl) rfl rfl (by simp)).trans (congrArg vs (Nat.zero_add _)))
    have i89 : b.eval (.tmp 89) = vs 9 := (congrArg (fun x => Act.eval x (.tmp 89)) hb).trans ((fill_in _ 0 9 _ _ 89 (by kernel_rfl) rfl rfl (by simp)).trans (congrArg vs (Nat.zero_add _)))
    have i90 : b.eval (.tmp 90) = vs 10 := (congrArg (fun x => Act.eval x (.tmp 90)) hb).trans ((fill_in _ 0 10 _ _ 90 (by kernel_rfl) rfl rfl (by simp)).trans (congrArg vs (Nat.zero_add _)))
    have i91 : b.eval (.tmp 91) = vs 11 := (congrArg (fun x => Act.eval x (.tmp 91)) hb).trans ((fill_in _ 0 11 _ _ 91 (by kernel_rfl) rfl rfl (by simp)).trans (congrArg vs (Nat.zero_add _)))
    have i92 : b.eval (.tmp 92) = vs 12 := (congrArg (fun x => Act.eval x (.tmp 92)) hb).trans ((fill_in _ 0 12 _ _ 92 (by kernel_rfl) rfl rfl (by simp)).trans (congrArg vs (Nat.zero_add _)))
    have i93 : b.eval (.tmp 93) = vs 13 := (congrArg (fun x => Act.eval x (.tmp 93)) hb).trans ((fill_in _ 0 13 _ _ 93 (by kernel_rfl) rfl rfl (by simp)).trans (congrArg vs (Nat.zero_add _)))
    have i94 : b.eval (.tmp 94) = vs 14 := (congrArg (fun x => Act.eval x (.tmp 94)) hb).trans ((fill_in _ 0 14 _ _ 94 (by kernel_rfl) rfl rfl (by simp)).trans (congrArg vs (Nat.zero_add _)))
    clear hb
    refine And.intro ?_ (And.intro ?_ (And.intro ?_ (And.intro ?_ (And.intro ?_ (And.intro ?_ (And.intro ?_ (And.intro ?_ (And.intro ?_ (And.intro ?_ (And.intro ?_ (And.intro ?_ (And.intro ?_ (And.intro ?_ (And.intro ?_ (And.intro ?_ (trivial))))))))))))))))
    · intro hp K hK
      refine g_no rfl ?_
      exact st_move (.inl rfl) (e9) (hK _ _ rfl hG (Below.refl _ _))
    · intro hp K hK
      refine g_no rfl ?_
      have e80 : b.eval (.tmp 80) = .int .i64 0 := i80.trans (hp 0 (by kernel_rfl))
      exact st_index rfl (e4) (e80) (by kernel_rfl) (hK _ _ rfl hG (Below.refl _ _))
    · intro hp K hK
      refine g_no rfl ?_
      have e81 : b.eval (.tmp 81) = .pointer (some ⟨w.heap.size, 0, none⟩) := i81.trans (hp 1 (by kernel_rfl))
      exact st_load rfl (e81) (ld1 ((blk_cell hG.b0 0).trans rfl)) (hK _ _ rfl hG (Below.refl _ _))
    · intro hp K hK
      refine g_no rfl ?_
      exact st_move (.inl rfl) (e9) (hK _ _ rfl hG (Below.refl _ _))
    · intro hp K hK
      refine g_no rfl ?_
      have e83 : b.eval (.tmp 83) = .int .i64 0 := i83.trans (hp 3 (by kernel_rfl))
      exact st_index rfl (e7) (e83) (by kernel_rfl) (hK _ _ rfl hG (Below.refl _ _))
    · intro hp K hK
      refine g_no rfl ?_
      have e84 : b.eval (.tmp 84) = .pointer (some ⟨w.heap.size + 1 + 1 + 1, 0, none⟩) := i84.trans (hp 4 (by kernel_rfl))
      exact st_load rfl (e84) (ld1 ((blk_cell hG.b3 0).trans rfl)) (hK _ _ rfl hG (Below.refl _ _))
    · intro hp K hK
      refine g_no rfl ?_
      have e82 : b.eval (.tmp 82) = .int .i64 n0 := i82.trans (hp 2 (by kernel_rfl))
      have e85 : b.eval (.tmp 85) = .int .i64 p0 := i85.trans (hp 5 (by kernel_rfl))
      have B := B0.out
      exact st_bin rfl (e82) (e85) (b_add (by first | rfl | exact IntWalk.i64_in _ (by omega))) (hK _ _ rfl hG (Below.refl _ _))
    · intro hp K hK
      refine g_no rfl ?_
      exact st_move (.inl rfl) (e9) (hK _ _ rfl hG (Below.refl _ _))
    · intro hp K hK
      refine g_no rfl ?_
      have e87 : b.eval (.tmp 87) = .int .i64 0 := i87.trans (hp 7 (by kernel_rfl))
      exact st_bin rfl (e87) (eval_const _) (b_add (by first | rfl | exact IntWalk.i64_in _ (by omega))) (hK _ _ rfl hG (Below.refl _ _))
    · intro hp K hK
      refine g_no rfl ?_
      have e88 : b.eval (.tmp 88) = .int .i64 (2) := i88.trans (hp 8 (by kernel_rfl))
      exact st_index rfl (e7) (e88) (by kernel_rfl) (hK _ _ rfl hG (Below.refl _ _))
    · intro hp K hK
      refine g_no rfl ?_
      have e89 : b.eval (.tmp 89) = .pointer (some ⟨w.heap.size + 1 + 1 + 1, 2, none⟩) := i89.trans (hp 9 (by kernel_rfl))
      exact st_load rfl (e89) (ld1 ((blk_cell hG.b3 2).trans rfl)) (hK _ _ rfl hG (Below.refl _ _))
    · intro hp K hK
      refine g_no rfl ?_
      have e86 : b.eval (.tmp 86) = .int .i64 (n0 + p0) := i86.trans (hp 6 (by kernel_rfl))
      have e90 : b.eval (.tmp 90) = .int .i64 p2 := i90.trans (hp 10 (by kernel_rfl))
      have B := B0.out
      exact st_bin rfl (e86) (e90) (b_add (by first | rfl | exact IntWalk.i64_in _ (by omega))) (hK _ _ rfl hG (Below.refl _ _))
    · intro hp K hK
      refine g_no rfl ?_
      exact st_move (.inl rfl) (e9) (hK _ _ rfl hG (Below.refl _ _))
    · intro hp K hK
      refine g_no rfl ?_
      have e92 : b.eval (.tmp 92) = .int .i64 0 := i92.trans (hp 12 (by kernel_rfl))
      exact st_index rfl (e5) (e92) (by kernel_rfl) (hK _ _ rfl hG (Below.refl _ _))
    · intro hp K hK
      refine g_no rfl ?_
      have e93 : b.eval (.tmp 93) = .pointer (some ⟨w.heap.size + 1, 0, none⟩) := i93.trans (hp 13 (by kernel_rfl))
      exact st_load rfl (e93) (ld1 ((blk_cell hG.b1 0).trans rfl)) (hK _ _ rfl hG (Below.refl _ _))
    · intro hp K hK
      refine g_no rfl ?_
      have e91 : b.eval (.tmp 91) = .int .i64 ((n0 + p0) + p2) := i91.trans (hp 11 (by kernel_rfl))
      have e94 : b.eval (.tmp 94) = .int .i64 k0 := i94.trans (hp 14 (by kernel_rfl))
      exact st_bin rfl (e91) (e94) b_lss (hK _ _ rfl hG (Below.refl _ _))
  intro vs W hG hp b hb
  have q15 : vs 15 = .bool (shortB n0 k0 p0 p2) := hp 15 (by decide)
  clear hp
  simp only [fill, Act.put, List.append_eq, List.cons_append, List.nil_append, List.take_succ_cons, List.take_zero, List.setIfInBounds_toArray, List.set_cons_succ, List.set_cons_zero, Nat.reduceAdd, Nat.zero_add, q15] at hb
  subst hb
  refine wpList_nil ?_
  clear q15
  clear J
  have J := Lib.hid hG
  clear hG
  go_wp2
  · go_ret
    exact ⟨by rename_i hbad; rw [show goodV n0 n1 k0 k1 s0 s1 p0 p1 p2 p3 = false from by simp [goodV, hbad]]; rfl, J.out.bel⟩
  have hno0 : shortB n0 k0 p0 p2 = false := by assumption
  have S0 := Lib.hid hno0
  clear hno0
  rw [rounds_succ]
  go_wp2
  replace J := J.out
  refine wp_drawn (R := fun W W' => Below W.heap.size W W') 66 [.val (.int .i64 1), .val (.pointer (some ⟨w.heap.size, 1, none⟩)), .val (.int .i64 n1), .val (.bool (decide (n1 < 1))), .val (.bool (decide (n1 < 1))), .val ((bif ((decide (n1 < 1)) == false) then (.int .i64 1) else undef)), .val ((bif ((decide (n1 < 1)) == false) then (.pointer (some ⟨w.heap.size, 1, none⟩)) else undef)), .val ((bif ((decide (n1 < 1)) == false) then (.int .i64 n1) else undef)), .val ((bif ((decide (n1 < 1)) == false) then (.bool (decide (64 < n1))) else undef)), .val (.bool ((decide (n1 < 1)) || (decide (64 < n1)))), .val (.bool ((decide (n1 < 1)) || (decide (64 < n1)))), .val ((bif (((decide (n1 < 1)) || (decide (64 < n1))) == false) then (.int .i64 1) else undef)), .val ((bif (((decide (n1 < 1)) || (decide (64 < n1))) == false) then (.pointer (some ⟨w.heap.size + 1, 1, none⟩)) else undef)), .val ((bif (((decide (n1 < 1)) || (decide (64 < n1))) == false) then (.int .i64 k1) else undef)), .val ((bif (((decide (n1 < 1)) || (decide (64 < n1))) == false) then (.bool (decide (k1 < 1))) else undef)), .val (.bool (((decide (n1 < 1)) || (decide (64 < n1))) || (decide (k1 < 1)))), .val (.bool (((decide (n1 < 1)) || (decide (64 < n1))) || (decide (k1 < 1)))), .val ((bif ((((decide (n1 < 1)) || (decide (64 < n1))) || (decide (k1 < 1))) == false) then (.int .i64 1) else undef)), .val ((bif ((((decide (n1 < 1)) || (decide (64 < n1))) || (decide (k1 < 1))) == false) then (.pointer (some ⟨w.heap.size + 1, 1, none⟩)) else undef)), .val ((bif ((((decide (n1 < 1)) || (decide (64 < n1))) || (decide (k1 < 1))) == false) then (.int .i64 k1) else undef)), .val ((bif ((((decide (n1 < 1)) || (decide (64 < n1))) || (decide (k1 < 1))) == false) then (.bool (decide (8 < k1))) else undef)), .val (.bool ((((decide (n1 < 1)) || (decide (64 < n1))) || (decide (k1 < 1))) || (decide (8 < k1)))), .val (.bool ((((decide (n1 < 1)) || (decide (64 < n1))) || (decide (k1 < 1))) || (decide (8 < k1)))), .val ((bif (((((decide (n1 < 1)) || (decide (64 < n1))) || (decide (k1 < 1))) || (decide (8 < k1))) == false) then (.int .i64 1) else undef)), .val ((bif (((((decide (n1 < 1)) || (decide (64 < n1))) || (decide (k1 < 1))) || (decide (8 < k1))) == false) then (.pointer (some ⟨w.heap.size + 1 + 1, 1, none⟩)) else undef)), .val ((bif (((((decide (n1 < 1)) || (decide (64 < n1))) || (decide (k1 < 1))) || (decide (8 < k1))) == false) then (.int .i64 s1) else undef)), .val ((bif (((((decide (n1 < 1)) || (decide (64 < n1))) || (decide (k1 < 1))) || (decide (8 < k1))) == false) then (.bool (decide (s1 < 1))) else undef)), .val (.bool (((((decide (n1 < 1)) || (decide (64 < n1))) || (decide (k1 < 1))) || (decide (8 < k1))) || (decide (s1 < 1)))), .val (.bool (((((decide (n1 < 1)) || (decide (64 < n1))) || (decide (k1 < 1))) || (decide (8 < k1))) || (decide (s1 < 1)))), .val ((bif ((((((decide (n1 < 1)) || (decide (64 < n1))) || (decide (k1 < 1))) || (decide (8 < k1))) || (decide (s1 < 1))) == false) then (.int .i64 1) else undef)), .val ((bif ((((((decide (n1 < 1)) || (decide (64 < n1))) || (decide (k1 < 1))) || (decide (8 < k1))) || (decide (s1 < 1))) == false) then (.pointer (some ⟨w.heap.size + 1 + 1, 1, none⟩)) else undef)), .val ((bif ((((((decide (n1 < 1)) || (decide (64 < n1))) || (decide (k1 < 1))) || (decide (8 < k1))) || (decide (s1 < 1))) == false) then (.int .i64 s1) else undef)), .val ((bif ((((((decide (n1 < 1)) || (decide (64 < n1))) || (decide (k1 < 1))) || (decide (8 < k1))) || (decide (s1 < 1))) == false) then (.bool (decide (8 < s1))) else undef)), .val (.bool ((((((decide (n1 < 1)) || (decide (64 < n1))) || (decide (k1 < 1))) || (decide (8 < k1))) || (decide (s1 < 1))) || (decide (8 < s1)))), .val (.bool ((((((decide (n1 < 1)) || (decide (64 < n1))) || (decide (k1 < 1))) || (decide (8 < k1))) || (decide (s1 < 1))) || (decide (8 < s1)))), .val ((bif (((((((decide (n1 < 1)) || (decide (64 < n1))) || (decide (k1 < 1))) || (decide (8 < k1))) || (decide (s1 < 1))) || (decide (8 < s1))) == false) then (.int .i64 1) else undef)), .val ((bif (((((((decide (n1 < 1)) || (decide (64 < n1))) || (decide (k1 < 1))) || (decide (8 < k1))) || (decide (s1 < 1))) || (decide (8 < s1))) == false) then (.pointer (some ⟨w.heap.size + 1 + 1 + 1, 1, none⟩)) else undef)), .val ((bif (((((((decide (n1 < 1)) || (decide (64 < n1))) || (decide (k1 < 1))) || (decide (8 < k1))) || (decide (s1 < 1))) || (decide (8 < s1))) == false) then (.int .i64 p1) else undef)), .val ((bif (((((((decide (n1 < 1)) || (decide (64 < n1))) || (decide (k1 < 1))) || (decide (8 < k1))) || (decide (s1 < 1))) || (decide (8 < s1))) == false) then (.bool (decide (p1 < 0))) else undef)), .val (.bool (((((((decide (n1 < 1)) || (decide (64 < n1))) || (decide (k1 < 1))) || (decide (8 < k1))) || (decide (s1 < 1))) || (decide (8 < s1))) || (decide (p1 < 0)))), .val (.bool (((((((decide (n1 < 1)) || (decide (64 < n1))) || (decide (k1 < 1))) || (decide (8 < k1))) || (decide (s1 < 1))) || (decide (8 < s1))) || (decide (p1 < 0)))), .val ((bif ((((((((decide (n1 < 1)) || (decide (64 < n1))) || (decide (k1 < 1))) || (decide (8 < k1))) || (decide (s1 < 1))) || (decide (8 < s1))) || (decide (p1 < 0))) == false) then (.int .i64 1) else undef)), .val ((bif ((((((((decide (n1 < 1)) || (decide (64 < n1))) || (decide (k1 < 1))) || (decide (8 < k1))) || (decide (s1 < 1))) || (decide (8 < s1))) || (decide (p1 < 0))) == false) then (.pointer (some ⟨w.heap.size + 1 + 1 + 1, 1, none⟩)) else undef)), .val ((bif ((((((((decide (n1 < 1)) || (decide (64 < n1))) || (decide (k1 < 1))) || (decide (8 < k1))) || (decide (s1 < 1))) || (decide (8 < s1))) || (decide (p1 < 0))) == false) then (.int .i64 p1) else undef)), .val ((bif ((((((((decide (n1 < 1)) || (decide (64 < n1))) || (decide (k1 < 1))) || (decide (8 < k1))) || (decide (s1 < 1))) || (decide (8 < s1))) || (decide (p1 < 0))) == false) then (.int .i64 1) else undef)), .val ((bif ((((((((decide (n1 < 1)) || (decide (64 < n1))) || (decide (k1 < 1))) || (decide (8 < k1))) || (decide (s1 < 1))) || (decide (8 < s1))) || (decide (p1 < 0))) == false) then (.pointer (some ⟨w.heap.size + 1, 1, none⟩)) else undef)), .val ((bif ((((((((decide (n1 < 1)) || (decide (64 < n1))) || (decide (k1 < 1))) || (decide (8 < k1))) || (decide (s1 < 1))) || (decide (8 < s1))) || (decide (p1 < 0))) == false) then (.int .i64 k1) else undef)), .val ((bif ((((((((decide (n1 < 1)) || (decide (64 < n1))) || (decide (k1 < 1))) || (decide (8 < k1))) || (decide (s1 < 1))) || (decide (8 < s1))) || (decide (p1 < 0))) == false) then (.bool (decide (k1 ≤ p1))) else undef)), .val (.bool ((((((((decide (n1 < 1)) || (decide (64 < n1))) || (decide (k1 < 1))) || (decide (8 < k1))) || (decide (s1 < 1))) || (decide (8 < s1))) || (decide (p1 < 0))) || (decide (k1 ≤ p1)))), .val (.bool ((((((((decide (n1 < 1)) || (decide (64 < n1))) || (decide (k1 < 1))) || (decide (8 < k1))) || (decide (s1 < 1))) || (decide (8 < s1))) || (decide (p1 < 0))) || (decide (k1 ≤ p1)))), .val ((bif (((((((((decide (n1 < 1)) || (decide (64 < n1))) || (decide (k1 < 1))) || (decide (8 < k1))) || (decide (s1 < 1))) || (decide (8 < s1))) || (decide (p1 < 0))) || (decide (k1 ≤ p1))) == false) then (.int .i64 1) else undef)), .val ((bif (((((((((decide (n1 < 1)) || (decide (64 < n1))) || (decide (k1 < 1))) || (decide (8 < k1))) || (decide (s1 < 1))) || (decide (8 < s1))) || (decide (p1 < 0))) || (decide (k1 ≤ p1))) == false) then (.int .i64 (3)) else undef)), .val ((bif (((((((((decide (n1 < 1)) || (decide (64 < n1))) || (decide (k1 < 1))) || (decide (8 < k1))) || (decide (s1 < 1))) || (decide (8 < s1))) || (decide (p1 < 0))) || (decide (k1 ≤ p1))) == false) then (.pointer (some ⟨w.heap.size + 1 + 1 + 1, 3, none⟩)) else undef)), .val ((bif (((((((((decide (n1 < 1)) || (decide (64 < n1))) || (decide (k1 < 1))) || (decide (8 < k1))) || (decide (s1 < 1))) || (decide (8 < s1))) || (decide (p1 < 0))) || (decide (k1 ≤ p1))) == false) then (.int .i64 p3) else undef)), .val ((bif (((((((((decide (n1 < 1)) || (decide (64 < n1))) || (decide (k1 < 1))) || (decide (8 < k1))) || (decide (s1 < 1))) || (decide (8 < s1))) || (decide (p1 < 0))) || (decide (k1 ≤ p1))) == false) then (.bool (decide (p3 < 0))) else undef)), .val (.bool (((((((((decide (n1 < 1)) || (decide (64 < n1))) || (decide (k1 < 1))) || (decide (8 < k1))) || (decide (s1 < 1))) || (decide (8 < s1))) || (decide (p1 < 0))) || (decide (k1 ≤ p1))) || (decide (p3 < 0)))), .val (.bool (((((((((decide (n1 < 1)) || (decide (64 < n1))) || (decide (k1 < 1))) || (decide (8 < k1))) || (decide (s1 < 1))) || (decide (8 < s1))) || (decide (p1 < 0))) || (decide (k1 ≤ p1))) || (decide (p3 < 0)))), .val ((bif ((((((((((decide (n1 < 1)) || (decide (64 < n1))) || (decide (k1 < 1))) || (decide (8 < k1))) || (decide (s1 < 1))) || (decide (8 < s1))) || (decide (p1 < 0))) || (decide (k1 ≤ p1))) || (decide (p3 < 0))) == false) then (.int .i64 1) else undef)), .val ((bif ((((((((((decide (n1 < 1)) || (decide (64 < n1))) || (decide (k1 < 1))) || (decide (8 < k1))) || (decide (s1 < 1))) || (decide (8 < s1))) || (decide (p1 < 0))) || (decide (k1 ≤ p1))) || (decide (p3 < 0))) == false) then (.int .i64 (3)) else undef)), .val ((bif ((((((((((decide (n1 < 1)) || (decide (64 < n1))) || (decide (k1 < 1))) || (decide (8 < k1))) || (decide (s1 < 1))) || (decide (8 < s1))) || (decide (p1 < 0))) || (decide (k1 ≤ p1))) || (decide (p3 < 0))) == false) then (.pointer (some ⟨w.heap.size + 1 + 1 + 1, 3, none⟩)) else undef)), .val ((bif ((((((((((decide (n1 < 1)) || (decide (64 < n1))) || (decide (k1 < 1))) || (decide (8 < k1))) || (decide (s1 < 1))) || (decide (8 < s1))) || (decide (p1 < 0))) || (decide (k1 ≤ p1))) || (decide (p3 < 0))) == false) then (.int .i64 p3) else undef)), .val ((bif ((((((((((decide (n1 < 1)) || (decide (64 < n1))) || (decide (k1 < 1))) || (decide (8 < k1))) || (decide (s1 < 1))) || (decide (8 < s1))) || (decide (p1 < 0))) || (decide (k1 ≤ p1))) || (decide (p3 < 0))) == false) then (.int .i64 1) else undef)), .val ((bif ((((((((((decide (n1 < 1)) || (decide (64 < n1))) || (decide (k1 < 1))) || (decide (8 < k1))) || (decide (s1 < 1))) || (decide (8 < s1))) || (decide (p1 < 0))) || (decide (k1 ≤ p1))) || (decide (p3 < 0))) == false) then (.pointer (some ⟨w.heap.size + 1, 1, none⟩)) else undef)), .val ((bif ((((((((((decide (n1 < 1)) || (decide (64 < n1))) || (decide (k1 < 1))) || (decide (8 < k1))) || (decide (s1 < 1))) || (decide (8 < s1))) || (decide (p1 < 0))) || (decide (k1 ≤ p1))) || (decide (p3 < 0))) == false) then (.int .i64 k1) else undef)), .val ((bif ((((((((((decide (n1 < 1)) || (decide (64 < n1))) || (decide (k1 < 1))) || (decide (8 < k1))) || (decide (s1 < 1))) || (decide (8 < s1))) || (decide (p1 < 0))) || (decide (k1 ≤ p1))) || (decide (p3 < 0))) == false) then (.bool (decide (k1 ≤ p3))) else undef)), .val (.bool (badB n1 k1 s1 p1 p3))] (fun W => O4 n0 n1 k0 k1 s0 s1 p0 p1 p2 p3 w W) rfl (by kernel_rfl) J.drew ?_ ?_
  · intro vs W hG b hb
    have e4 : b.eval (.tmp 4) = .pointer (some ⟨w.heap.size, 0, none⟩) := (congrArg (fun x => Act.eval x (.tmp 4)) hb).trans ((fill_out _ 0 _ (by kernel_rfl)).trans rfl)
    have e5 : b.eval (.tmp 5) = .pointer (some ⟨w.heap.size + 1, 0, none⟩) := (congrArg (fun x => Act.eval x (.tmp 5)) hb).trans ((fill_out _ 0 _ (by kernel_rfl)).trans rfl)
    have e6 : b.eval (.tmp 6) = .pointer (some ⟨w.heap.size + 1 + 1, 0, none⟩) := (congrArg (fun x => Act.eval x (.tmp 6)) hb).trans ((fill_out _ 0 _ (by kernel_rfl)).trans rfl)
    have e7 : b.eval (.tmp 7) = .pointer (some ⟨w.heap.size + 1 + 1 + 1, 0, none⟩) := (congrArg (fun x => Act.eval x (.tmp 7)) hb).trans ((fill_out _ 0 _ (by kernel_rfl)).trans rfl)
    have e9 : b.eval (.tmp 9) = .int .i64 1 := (congrArg (fun x => Act.eval x (.tmp 9)) hb).trans ((fill_out _ 0 _ (by kernel_rfl)).trans rfl)
    have i14 : b.eval (.tmp 14) = vs 0 := (congrArg (fun x => Act.eval x (.tmp 14)) hb).trans ((fill_in _ 0 0 _ _ 14 (by kernel_rfl) rfl rfl (by simp)).trans (congrArg vs (Nat.zero_add _)))
    have i15 : b.eval (.tmp 15) = vs 1 := (congrArg (fun x => Act.eval x (.tmp 15)) hb).trans ((fill_in _ 0 1 _ _ 15 (by kernel_rfl) rfl rfl (by simp)).trans (congrArg vs (Nat.zero_add _)))
    have i16 : b.eval (.tmp 16) = vs 2 := (congrArg (fun x => Act.eval x (.tmp 16)) hb).trans ((fill_in _ 0 2 _ _ 16 (by kernel_rfl) rfl rfl (by simp)).trans (congrArg vs (Nat.zero_add _)))
    have i17 : b.eval (.tmp 17) = vs 3 := (congrArg (fun x => Act.eval x (.tmp 17)) hb).trans ((fill_in _ 0 3 _ _ 17 (by kernel_rfl) rfl rfl (by simp)).trans (congrArg vs (Nat.zero_add _)))
    have i18 : b.eval (.tmp 18) = vs 4 := (congrArg (fun x => Act.eval x (.tmp 18)) hb).trans ((fill_in _ 0 4 _ _ 18 (by kernel_rfl) rfl rfl (by simp)).trans (congrArg vs (Nat.zero_add _)))
    have i19 : b.eval (.tmp 19) = vs 5 := (congrArg (fun x => Act.eval x (.tmp 19)) hb).trans ((fill_in _ 0 5 _ _ 19 (by kernel_rfl) rfl rfl (by simp)).trans (congrArg vs (Nat.zero_add _)))
    have i20 : b.eval (.tmp 20) = vs 6 := (congrArg (fun x => Act.eval x (.tmp 20)) hb).trans ((fill_in _ 0 6 _ _ 20 (by kernel_rfl) rfl rfl (by simp)).trans (congrArg vs (Nat.zero_add _)))
    have i21 : b.eval (.tmp 21) = vs 7 := (congrArg (fun x => Act.eval x (.tmp 21)) hb).trans ((fill_in _ 0 7 _ _ 21 (by kernel_rfl) rfl rfl (by simp)).trans (congrArg vs (Nat.zero_add _)))
    have i22 : b.eval (.tmp 22) = vs 8 := (congrArg (fun x => Act.eval x (.tmp 22)) hb).trans ((fill_in _ 0 8 _ _ 22 (by kernel_rfl) rfl rfl (by simp)).trans (congrArg vs (Nat.zero_add _)))
    have i23 : b.eval (.tmp 23) = vs 9 := (congrArg (fun x => Act.eval x (.tmp 23)) hb).trans ((fill_in _ 0 9 _ _ 23 (by kernel_rfl) rfl rfl (by simp)).trans (congrArg vs (Nat.zero_add _)))
    have i24 : b.eval (.tmp 24) = vs 10 := (congrArg (fun x => Act.eval x (.tmp 24)) hb).trans ((fill_in _ 0 10 _ _ 24 (by kernel_rfl) rfl rfl (by simp)).trans (congrArg vs (Nat.zero_add _)))
    have i25 : b.eval (.tmp 25) = vs 11 := (congrArg (fun x => Act.eval x (.tmp 25)) hb).trans ((fill_in _ 0 11 _ _ 25 (by kernel_rfl) rfl rfl (by simp)).trans (congrArg vs (Nat.zero_add _)))
    have i26 : b.eval (.tmp 26) = vs 12 := (congrArg (fun x => Act.eval x (.tmp 26)) hb).trans ((fill_in _ 0 12 _ _ 26 (by kernel_rfl) rfl rfl (by simp)).trans (congrArg vs (Nat.zero_add _)))
    have i27 : b.eval (.tmp 27) = vs 13 := (congrArg (fun x => Act.eval x (.tmp 27)) hb).trans ((fill_in _ 0 13 _ _ 27 (by kernel_rfl) rfl rfl (by simp)).trans (congrArg vs (Nat.zero_add _)))
    have i28 : b.eval (.tmp 28) = vs 14 := (congrArg (fun x => Act.eval x (.tmp 28)) hb).trans ((fill_in _ 0 14 _ _ 28 (by kernel_rfl) rfl rfl (by simp)).trans (congrArg vs (Nat.zero_add _)))
    have i29 : b.eval (.tmp 29) = vs 15 := (congrArg (fun x => Act.eval x (.tmp 29)) hb).trans ((fill_in _ 0 15 _ _ 29 (by kernel_rfl) rfl rfl (by simp)).trans (congrArg vs (Nat.zero_add _)))
    have i30 : b.eval (.tmp 30) = vs 16 := (congrArg (fun x => Act.eval x (.tmp 30)) hb).trans ((fill_in _ 0 16 _ _ 30 (by kernel_rfl) rfl rfl (by simp)).trans (congrArg vs (Nat.zero_add _)))
    have i31 : b.eval (.tmp 31) = vs 17 := (congrArg (fun x => Act.eval x (.tmp 31)) hb).trans ((fill_in _ 0 17 _ _ 31 (by kernel_rfl) rfl rfl (by simp)).trans (congrArg vs (Nat.zero_add _)))
    have i32 : b.eval (.tmp 32) = vs 18 := (congrArg (fun x => Act.eval x (.tmp 32)) hb).trans ((fill_in _ 0 18 _ _ 32 (by kernel_rfl) rfl rfl (by simp)).trans (congrArg vs (Nat.zero_add _)))
    have i33 : b.eval (.tmp 33) = vs 19 := (congrArg (fun x => Act.eval x (.tmp 33)) hb).trans ((fill_in _ 0 19 _ _ 33 (by kernel_rfl) rfl rfl (by simp)).trans (congrArg vs (Nat.zero_add _)))
    have i34 : b.eval (.tmp 34) = vs 20 := (congrArg (fun x => Act.eval x (.tmp 34)) hb).trans ((fill_in _ 0 20 _ _ 34 (by kernel_rfl) rfl rfl (by simp)).trans (congrArg vs (Nat.zero_add _)))
    have i35 : b.eval (.tmp 35) = vs 21 := (congrArg (fun x => Act.eval x (.tmp 35)) hb).trans ((fill_in _ 0 21 _ _ 35 (by kernel_rfl) rfl rfl (by simp)).trans (congrArg vs (Nat.zero_add _)))
    have i36 : b.eval (.tmp 36) = vs 22 := (congrArg (fun x => Act.eval x (.tmp 36)) hb).trans ((fill_in _ 0 22 _ _ 36 (by kernel_rfl) rfl rfl (by simp)).trans (congrArg vs (Nat.zero_add _)))
    have i37 : b.eval (.tmp 37) = vs 23 := (congrArg (fun x => Act.eval x (.tmp 37)) hb).trans ((fill_in _ 0 23 _ _ 37 (by kernel_rfl) rfl rfl (by simp)).trans (congrArg vs (Nat.zero_add _)))
    have i38 : b.eval (.tmp 38) = vs 24 := (congrArg (fun x => Act.eval x (.tmp 38)) hb).trans ((fill_in _ 0 24 _ _ 38 (by kernel_rfl) rfl rfl (by simp)).trans (congrArg vs (Nat.zero_add _)))
    have i39 : b.eval (.tmp 39) = vs 25 := (congrArg (fun x => Act.eval x (.tmp 39)) hb).trans ((fill_in _ 0 25 _ _ 39 (by kernel_rfl) rfl rfl (by simp)).trans (congrArg vs (Nat.zero_add _)))
    have i40 : b.eval (.tmp 40) = vs 26 := (congrArg (fun x => Act.eval x (.tmp 40)) hb).trans ((fill_in _ 0 26 _ _ 40 (by kernel_rfl) rfl rfl (by simp)).trans (congrArg vs (Nat.zero_add _)))
    have i41 : b.eval (.tmp 41) = vs 27 := (congrArg (fun x => Act.eval x (.tmp 41)) hb).trans ((fill_in _ 0 27 _ _ 41 (by kernel_rfl) rfl rfl (by simp)).trans (congrArg vs (Nat.zero_add _)))
    have i42 : b.eval (.tmp 42) = vs 28 := (congrArg (fun x => Act.eval x (.tmp 42)) hb).trans ((fill_in _ 0 28 _ _ 42 (by kernel_rfl) rfl rfl (by simp)).trans (congrArg vs (Nat.zero_add _)))
    have i43 : b.eval (.tmp 43) = vs 29 := (congrArg (fun x => Act.eval x (.tmp 43)) hb).trans ((fill_in _ 0 29 _ _ 43 (by kernel_rfl) rfl rfl (by simp)).trans (congrArg vs (Nat.zero_add _)))
    have i44 : b.eval (.tmp 44) = vs 30 := (congrArg (fun x => Act.eval x (.tmp 44)) hb).trans ((fill_in _ 0 30 _ _ 44 (by kernel_rfl) rfl rfl (by simp)).trans (congrArg vs (Nat.zero_add _)))
    have i45 : b.eval (.tmp 45) = vs 31 := (congrArg (fun x => Act.eval x (.tmp 45)) hb).trans ((fill_in _ 0 31 _ _ 45 (by kernel_rfl) rfl rfl (by simp)).trans (congrArg vs (Nat.zero_add _)))
    have i46 : b.eval (.tmp 46) = vs 32 := (congrArg (fun x => Act.eval x (.tmp 46)) hb).trans ((fill_in _ 0 32 _ _ 46 (by kernel_rfl) rfl rfl (by simp)).trans (congrArg vs (Nat.zero_add _)))
    have i47 : b.eval (.tmp 47) = vs 33 := (congrArg (fun x => Act.eval x (.tmp 47)) hb).trans ((fill_in _ 0 33 _ _ 47 (by kernel_rfl) rfl rfl (by simp)).trans (congrArg vs (Nat.zero_add _)))
    have i48 : b.eval (.tmp 48) = vs 34 := (congrArg (fun x => Act.eval x (.tmp 48)) hb).trans ((fill_in _ 0 34 _ _ 48 (by kernel_rfl) rfl rfl (by simp)).trans (congrArg vs (Nat.zero_add _)))
    have i49 : b.eval (.tmp 49) = vs 35 := (congrArg (fun x => Act.eval x (.tmp 49)) hb).trans ((fill_in _ 0 35 _ _ 49 (by kernel_rfl) rfl rfl (by simp)).trans (congrArg vs (Nat.zero_add _)))
    have i50 : b.eval (.tmp 50) = vs 36 := (congrArg (fun x => Act.eval x (.tmp 50)) hb).trans ((fill_in _ 0 36 _ _ 50 (by kernel_rfl) rfl rfl (by simp)).trans (congrArg vs (Nat.zero_add _)))
    have i51 : b.eval (.tmp 51) = vs 37 := (congrArg (fun x => Act.eval x (.tmp 51)) hb).trans ((fill_in _ 0 37 _ _ 51 (by kernel_rfl) rfl rfl (by simp)).trans (congrArg vs (Nat.zero_add _)))
    have i52 : b.eval (.tmp 52) = vs 38 := (congrArg (fun x => Act.eval x (.tmp 52)) hb).trans ((fill_in _ 0 38 _ _ 52 (by kernel_rfl) rfl rfl (by simp)).trans (congrArg vs (Nat.zero_add _)))
    have i53 : b.eval (.tmp 53) = vs 39 := (congrArg (fun x => Act.eval x (.tmp 53)) hb).trans ((fill_in _ 0 39 _ _ 53 (by kernel_rfl) rfl rfl (by simp)).trans (congrArg vs (Nat.zero_add _)))
    have i54 : b.eval (.tmp 54) = vs 40 := (congrArg (fun x => Act.eval x (.tmp 54)) hb).trans ((fill_in _ 0 40 _ _ 54 (by kernel_rfl) rfl rfl (by simp)).trans (congrArg vs (Nat.zero_add _)))
    have i55 : b.eval (.tmp 55) = vs 41 := (congrArg (fun x => Act.eval x (.tmp 55)) hb).trans ((fill_in _ 0 41 _ _ 55 (by kernel_rfl) rfl rfl (by simp)).trans (congrArg vs (Nat.zero_add _)))
    have i56 : b.eval (.tmp 56) = vs 42 := (congrArg (fun x => Act.eval x (.tmp 56)) hb).trans ((fill_in _ 0 42 _ _ 56 (by kernel_rfl) rfl rfl (by simp)).trans (congrArg vs (Nat.zero_add _)))
    have i57 : b.eval (.tmp 57) = vs 43 := (congrArg (fun x => Act.eval x (.tmp 57)) hb).trans ((fill_in _ 0 43 _ _ 57 (by kernel_rfl) rfl rfl (by simp)).trans (congrArg vs (Nat.zero_add _)))
    have i58 : b.eval (.tmp 58) = vs 44 := (congrArg (fun x => Act.eval x (.tmp 58)) hb).trans ((fill_in _ 0 44 _ _ 58 (by kernel_rfl) rfl rfl (by simp)).trans (congrArg vs (Nat.zero_add _)))
    have i59 : b.eval (.tmp 59) = vs 45 := (congrArg (fun x => Act.eval x (.tmp 59)) hb).trans ((fill_in _ 0 45 _ _ 59 (by kernel_rfl) rfl rfl (by simp)).trans (congrArg vs (Nat.zero_add _)))
    have i60 : b.eval (.tmp 60) = vs 46 := (congrArg (fun x => Act.eval x (.tmp 60)) hb).trans ((fill_in _ 0 46 _ _ 60 (by kernel_rfl) rfl rfl (by simp)).trans (congrArg vs (Nat.zero_add _)))
    have i61 : b.eval (.tmp 61) = vs 47 := (congrArg (fun x => Act.eval x (.tmp 61)) hb).trans ((fill_in _ 0 47 _ _ 61 (by kernel_rfl) rfl rfl (by simp)).trans (congrArg vs (Nat.zero_add _)))
    have i62 : b.eval (.tmp 62) = vs 48 := (congrArg (fun x => Act.eval x (.tmp 62)) hb).trans ((fill_in _ 0 48 _ _ 62 (by kernel_rfl) rfl rfl (by simp)).trans (congrArg vs (Nat.zero_add _)))
    have i63 : b.eval (.tmp 63) = vs 49 := (congrArg (fun x => Act.eval x (.tmp 63)) hb).trans ((fill_in _ 0 49 _ _ 63 (by kernel_rfl) rfl rfl (by simp)).trans (congrArg vs (Nat.zero_add _)))
    have i64 : b.eval (.tmp 64) = vs 50 := (congrArg (fun x => Act.eval x (.tmp 64)) hb).trans ((fill_in _ 0 50 _ _ 64 (by kernel_rfl) rfl rfl (by simp)).trans (congrArg vs (Nat.zero_add _)))
    have i65 : b.eval (.tmp 65) = vs 51 := (congrArg (fun x => Act.eval x (.tmp 65)) hb).trans ((fill_in _ 0 51 _ _ 65 (by kernel_rfl) rfl rfl (by simp)).trans (congrArg vs (Nat.zero_add _)))
    have i66 : b.eval (.tmp 66) = vs 52 := (congrArg (fun x => Act.eval x (.tmp 66)) hb).trans ((fill_in _ 0 52 _ _ 66 (by kernel_rfl) rfl rfl (by simp)).trans (congrArg vs (Nat.zero_add _)))
    have i67 : b.eval (.tmp 67) = vs 53 := (congrArg (fun x => Act.eval x (.tmp 67)) hb).trans ((fill_in _ 0 53 _ _ 67 (by kernel_rfl) rfl rfl (by simp)).trans (congrArg vs (Nat.zero_add _)))
    have i68 : b.eval (.tmp 68) = vs 54 := (congrArg (fun x => Act.eval x (.tmp 68)) hb).trans ((fill_in _ 0 54 _ _ 68 (by kernel_rfl) rfl rfl (by simp)).trans (congrArg vs (Nat.zero_add _)))
    have i69 : b.eval (.tmp 69) = vs 55 := (congrArg (fun x => Act.eval x (.tmp 69)) hb).trans ((fill_in _ 0 55 _ _ 69 (by kernel_rfl) rfl rfl (by simp)).trans (congrArg vs (Nat.zero_add _)))
    have i70 : b.eval (.tmp 70) = vs 56 := (congrArg (fun x => Act.eval x (.tmp 70)) hb).trans ((fill_in _ 0 56 _ _ 70 (by kernel_rfl) rfl rfl (by simp)).trans (congrArg vs (Nat.zero_add _)))
    have i71 : b.eval (.tmp 71) = vs 57 := (congrArg (fun x => Act.eval x (.tmp 71)) hb).trans ((fill_in _ 0 57 _ _ 71 (by kernel_rfl) rfl rfl (by simp)).trans (congrArg vs (Nat.zero_add _)))
    have i72 : b.eval (.tmp 72) = vs 58 := (congrArg (fun x => Act.eval x (.tmp 72)) hb).trans ((fill_in _ 0 58 _ _ 72 (by kernel_rfl) rfl rfl (by simp)).trans (congrArg vs (Nat.zero_add _)))
    have i73 : b.eval (.tmp 73) = vs 59 := (congrArg (fun x => Act.eval x (.tmp 73)) hb).trans ((fill_in _ 0 59 _ _ 73 (by kernel_rfl) rfl rfl (by simp)).trans (congrArg vs (Nat.zero_add _)))
    have i74 : b.eval (.tmp 74) = vs 60 := (congrArg (fun x => Act.eval x (.tmp 74)) hb).trans ((fill_in _ 0 60 _ _ 74 (by kernel_rfl) rfl rfl (by simp)).trans (congrArg vs (Nat.zero_add _)))
    have i75 : b.eval (.tmp 75) = vs 61 := (congrArg (fun x => Act.eval x (.tmp 75)) hb).trans ((fill_in _ 0 61 _ _ 75 (by kernel_rfl) rfl rfl (by simp)).trans (congrArg vs (Nat.zero_add _)))
    have i76 : b.eval (.tmp 76) = vs 62 := (congrArg (fun x => Act.eval x (.tmp 76)) hb).trans ((fill_in _ 0 62 _ _ 76 (by kernel_rfl) rfl rfl (by simp)).trans (congrArg vs (Nat.zero_add _)))
    have i77 : b.eval (.tmp 77) = vs 63 := (congrArg (fun x => Act.eval x (.tmp 77)) hb).trans ((fill_in _ 0 63 _ _ 77 (by kernel_rfl) rfl rfl (by simp)).trans (congrArg vs (Nat.zero_add _)))
    have i78 : b.eval (.tmp 78) = vs 64 := (congrArg (fun x => Act.eval x (.tmp 78)) hb).trans ((fill_in _ 0 64 _ _ 78 (by kernel_rfl) rfl rfl (by simp)).trans (congrArg vs (Nat.zero_add _)))
    clear hb
    refine And.intro ?_ (And.intro ?_ (And.intro ?_ (And.intro ?_ (And.intro ?_ (And.intro ?_ (And.intro ?_ (And.intro ?_ (And.intro ?_ (And.intro ?_ (And.intro ?_ (And.intro ?_ (And.intro ?_ (And.intro ?_ (And.intro ?_ (And.intro ?_ (And.intro ?_ (And.intro ?_ (And.intro ?_ (And.intro ?_ (And.intro ?_ (And.intro ?_ (And.intro ?_ (And.intro ?_ (And.intro ?_ (And.intro ?_ (And.intro ?_ (And.intro ?_ (And.intro ?_ (And.intro ?_ (And.intro ?_ (And.intro ?_ (And.intro ?_ (And.intro ?_ (And.intro ?_ (And.intro ?_ (And.intro ?_ (And.intro ?_ (And.intro ?_ (And.intro ?_ (And.intro ?_ (And.intro ?_ (And.intro ?_ (And.intro ?_ (And.intro ?_ (And.intro ?_ (And.intro ?_ (And.intro ?_ (And.intro ?_ (And.intro ?_ (And.intro ?_ (And.intro ?_ (And.intro ?_ (And.intro ?_ (And.intro ?_ (And.intro ?_ (And.intro ?_ (And.intro ?_ (And.intro ?_ (And.intro ?_ (And.intro ?_ (And.intro ?_ (And.intro ?_ (And.intro ?_ (And.intro ?_ (And.intro ?_ (trivial))))))))))))))))))))))))))))))))))))))))))))))))))))))))))))))))))
    · intro hp K hK
      refine g_no rfl ?_
      exact st_move (.inl rfl) (e9) (hK _ _ rfl hG (Below.refl _ _))
    · intro hp K hK
      refine g_no rfl ?_
      have e14 : b.eval (.tmp 14) = .int .i64 1 := i14.trans (hp 0 (by kernel_rfl))
      exact st_index rfl (e4) (e14) (by kernel_rfl) (hK _ _ rfl hG (Below.refl _ _))
    · intro hp K hK
      refine g_no rfl ?_
      have e15 : b.eval (.tmp 15) = .pointer (some ⟨w.heap.size, 1, none⟩) := i15.trans (hp 1 (by kernel_rfl))
      exact st_load rfl (e15) (ld1 ((blk_cell hG.b0 1).trans rfl)) (hK _ _ rfl hG (Below.refl _ _))
    · intro hp K hK
      refine g_no rfl ?_
      have e16 : b.eval (.tmp 16) = .int .i64 n1 := i16.trans (hp 2 (by kernel_rfl))
      exact st_bin rfl (e16) (eval_const _) b_lss (hK _ _ rfl hG (Below.refl _ _))
    · intro hp K hK
      refine g_no rfl ?_
      have e17 : b.eval (.tmp 17) = .bool (decide (n1 < 1)) := i17.trans (hp 3 (by kernel_rfl))
      exact st_move (.inl rfl) (e17) (hK _ _ rfl hG (Below.refl _ _))
    · intro hp K hK
      refine g_is (j := 4) (want := false) (c := decide (n1 < 1)) rfl (yielded_of (d := 18) rfl rfl (i18.trans (hp 4 (by kernel_rfl)))) (fun hb => ?_) (fun hb => hK _ _ (cond_no hb) hG (Below.refl _ _))
      exact st_move (.inl rfl) (e9) (hK _ _ (cond_yes hb).symm hG (Below.refl _ _))
    · intro hp K hK
      refine g_is (j := 4) (want := false) (c := decide (n1 < 1)) rfl (yielded_of (d := 18) rfl rfl (i18.trans (hp 4 (by kernel_rfl)))) (fun hb => ?_) (fun hb => hK _ _ (cond_no hb) hG (Below.refl _ _))
      have e19 : b.eval (.tmp 19) = (bif ((decide (n1 < 1)) == false) then (.int .i64 1) else undef) := i19.trans (hp 5 (by kernel_rfl))
      replace e19 := e19.trans (cond_yes hb)
      exact st_index rfl (e4) (e19) (by kernel_rfl) (hK _ _ (cond_yes hb).symm hG (Below.refl _ _))
    · intro hp K hK
      refine g_is (j := 4) (want := false) (c := decide (n1 < 1)) rfl (yielded_of (d := 18) rfl rfl (i18.trans (hp 4 (by kernel_rfl)))) (fun hb => ?_) (fun hb => hK _ _ (cond_no hb) hG (Below.refl _ _))
      have e20 : b.eval (.tmp 20) = (bif ((decide (n1 < 1)) == false) then (.pointer (some ⟨w.heap.size, 1, none⟩)) else undef) := i20.trans (hp 6 (by kernel_rfl))
      replace e20 := e20.trans (cond_yes hb)
      exact st_load rfl (e20) (ld1 ((blk_cell hG.b0 1).trans rfl)) (hK _ _ (cond_yes hb).symm hG (Below.refl _ _))
    · intro hp K hK
      refine g_is (j := 4) (want := false) (c := decide (n1 < 1)) rfl (yielded_of (d := 18) rfl rfl (i18.trans (hp 4 (by kernel_rfl)))) (fun hb => ?_) (fun hb => hK _ _ (cond_no hb) hG (Below.refl _ _))
      have e21 : b.eval (.tmp 21) = (bif ((decide (n1 < 1)) == false) then (.int .i64 n1) else undef) := i21.trans (hp 7 (by kernel_rfl))
      replace e21 := e21.trans (cond_yes hb)
      exact st_bin rfl (e21) (eval_const _) b_gtr (hK _ _ (cond_yes hb).symm hG (Below.refl _ _))
    · intro hp K hK
      refine g_no rfl ?_
      have e18 : b.eval (.tmp 18) = .bool (decide (n1 < 1)) := i18.trans (hp 4 (by kernel_rfl))
      have e22 : b.eval (.tmp 22) = (bif ((decide (n1 < 1)) == false) then (.bool (decide (64 < n1))) else undef) := i22.trans (hp 8 (by kernel_rfl))
      exact st_pick rfl (e18) (by first | (rw [e22]; exact pick_or) | (rw [show b.eval (Operand.tmp 22) = _ from eval_const _]; exact pick_or)) (hK _ _ rfl hG (Below.refl _ _))
    · intro hp K hK
      refine g_no rfl ?_
      have e23 : b.eval (.tmp 23) = .bool ((decide (n1 < 1)) || (decide (64 < n1))) := i23.trans (hp 9 (by kernel_rfl))
      exact st_move (.inl rfl) (e23) (hK _ _ rfl hG (Below.refl _ _))
    · intro hp K hK
      refine g_is (j := 10) (want := false) (c := (decide (n1 < 1)) || (decide (64 < n1))) rfl (yielded_of (d := 24) rfl rfl (i24.trans (hp 10 (by kernel_rfl)))) (fun hb => ?_) (fun hb => hK _ _ (cond_no hb) hG (Below.refl _ _))
      exact st_move (.inl rfl) (e9) (hK _ _ (cond_yes hb).symm hG (Below.refl _ _))
    · intro hp K hK
      refine g_is (j := 10) (want := false) (c := (decide (n1 < 1)) || (decide (64 < n1))) rfl (yielded_of (d := 24) rfl rfl (i24.trans (hp 10 (by kernel_rfl)))) (fun hb => ?_) (fun hb => hK _ _ (cond_no hb) hG (Below.refl _ _))
      have e25 : b.eval (.tmp 25) = (bif (((decide (n1 < 1)) || (decide (64 < n1))) == false) then (.int .i64 1) else undef) := i25.trans (hp 11 (by kernel_rfl))
      replace e25 := e25.trans (cond_yes hb)
      exact st_index rfl (e5) (e25) (by kernel_rfl) (hK _ _ (cond_yes hb).symm hG (Below.refl _ _))
    · intro hp K hK
      refine g_is (j := 10) (want := false) (c := (decide (n1 < 1)) || (decide (64 < n1))) rfl (yielded_of (d := 24) rfl rfl (i24.trans (hp 10 (by kernel_rfl)))) (fun hb => ?_) (fun hb => hK _ _ (cond_no hb) hG (Below.refl _ _))
      have e26 : b.eval (.tmp 26) = (bif (((decide (n1 < 1)) || (decide (64 < n1))) == false) then (.pointer (some ⟨w.heap.size + 1, 1, none⟩)) else undef) := i26.trans (hp 12 (by kernel_rfl))
      replace e26 := e26.trans (cond_yes hb)
      exact st_load rfl (e26) (ld1 ((blk_cell hG.b1 1).trans rfl)) (hK _ _ (cond_yes hb).symm hG (Below.refl _ _))
    · intro hp K hK
      refine g_is (j := 10) (want := false) (c := (decide (n1 < 1)) || (decide (64 < n1))) rfl (yielded_of (d := 24) rfl rfl (i24.trans (hp 10 (by kernel_rfl)))) (fun hb => ?_) (fun hb => hK _ _ (cond_no hb) hG (Below.refl _ _))
      have e27 : b.eval (.tmp 27) = (bif (((decide (n1 < 1)) || (decide (64 < n1))) == false) then (.int .i64 k1) else undef) := i27.trans (hp 13 (by kernel_rfl))
      replace e27 := e27.trans (cond_yes hb)
      exact st_bin rfl (e27) (eval_const _) b_lss (hK _ _ (cond_yes hb).symm hG (Below.refl _ _))
    · intro hp K hK
      refine g_no rfl ?_
      have e24 : b.eval (.tmp 24) = .bool ((decide (n1 < 1)) || (decide (64 < n1))) := i24.trans (hp 10 (by kernel_rfl))
      have e28 : b.eval (.tmp 28) = (bif (((decide (n1 < 1)) || (decide (64 < n1))) == false) then (.bool (decide (k1 < 1))) else undef) := i28.trans (hp 14 (by kernel_rfl))
      exact st_pick rfl (e24) (by first | (rw [e28]; exact pick_or) | (rw [show b.eval (Operand.tmp 28) = _ from eval_const _]; exact pick_or)) (hK _ _ rfl hG (Below.refl _ _))
    · intro hp K hK
      refine g_no rfl ?_
      have e29 : b.eval (.tmp 29) = .bool (((decide (n1 < 1)) || (decide (64 < n1))) || (decide (k1 < 1))) := i29.trans (hp 15 (by kernel_rfl))
      exact st_move (.inl rfl) (e29) (hK _ _ rfl hG (Below.refl _ _))
    · intro hp K hK
      refine g_is (j := 16) (want := false) (c := ((decide (n1 < 1)) || (decide (64 < n1))) || (decide (k1 < 1))) rfl (yielded_of (d := 30) rfl rfl (i30.trans (hp 16 (by kernel_rfl)))) (fun hb => ?_) (fun hb => hK _ _ (cond_no hb) hG (Below.refl _ _))
      exact st_move (.inl rfl) (e9) (hK _ _ (cond_yes hb).symm hG (Below.refl _ _))
    · intro hp K hK
      refine g_is (j := 16) (want := false) (c := ((decide (n1 < 1)) || (decide (64 < n1))) || (decide (k1 < 1))) rfl (yielded_of (d := 30) rfl rfl (i30.trans (hp 16 (by kernel_rfl)))) (fun hb => ?_) (fun hb => hK _ _ (cond_no hb) hG (Below.refl _ _))
      have e31 : b.eval (.tmp 31) = (bif ((((decide (n1 < 1)) || (decide (64 < n1))) || (decide (k1 < 1))) == false) then (.int .i64 1) else undef) := i31.trans (hp 17 (by kernel_rfl))
      replace e31 := e31.trans (cond_yes hb)
      exact st_index rfl (e5) (e31) (by kernel_rfl) (hK _ _ (cond_yes hb).symm hG (Below.refl _ _))
    · intro hp K hK
      refine g_is (j := 16) (want := false) (c := ((decide (n1 < 1)) || (decide (64 < n1))) || (decide (k1 < 1))) rfl (yielded_of (d := 30) rfl rfl (i30.trans (hp 16 (by kernel_rfl)))) (fun hb => ?_) (fun hb => hK _ _ (cond_no hb) hG (Below.refl _ _))
      have e32 : b.eval (.tmp 32) = (bif ((((decide (n1 < 1)) || (decide (64 < n1))) || (decide (k1 < 1))) == false) then (.pointer (some ⟨w.heap.size + 1, 1, none⟩)) else undef) := i32.trans (hp 18 (by kernel_rfl))
      replace e32 := e32.trans (cond_yes hb)
      exact st_load rfl (e32) (ld1 ((blk_cell hG.b1 1).trans rfl)) (hK _ _ (cond_yes hb).symm hG (Below.refl _ _))
    · intro hp K hK
      refine g_is (j := 16) (want := false) (c := ((decide (n1 < 1)) || (decide (64 < n1))) || (decide (k1 < 1))) rfl (yielded_of (d := 30) rfl rfl (i30.trans (hp 16 (by kernel_rfl)))) (fun hb => ?_) (fun hb => hK _ _ (cond_no hb) hG (Below.refl _ _))
      have e33 : b.eval (.tmp 33) = (bif ((((decide (n1 < 1)) || (decide (64 < n1))) || (decide (k1 < 1))) == false) then (.int .i64 k1) else undef) := i33.trans (hp 19 (by kernel_rfl))
      replace e33 := e33.trans (cond_yes hb)
      exact st_bin rfl (e33) (eval_const _) b_gtr (hK _ _ (cond_yes hb).symm hG (Below.refl _ _))
    · intro hp K hK
      refine g_no rfl ?_
      have e30 : b.eval (.tmp 30) = .bool (((decide (n1 < 1)) || (decide (64 < n1))) || (decide (k1 < 1))) := i30.trans (hp 16 (by kernel_rfl))
      have e34 : b.eval (.tmp 34) = (bif ((((decide (n1 < 1)) || (decide (64 < n1))) || (decide (k1 < 1))) == false) then (.bool (decide (8 < k1))) else undef) := i34.trans (hp 20 (by kernel_rfl))
      exact st_pick rfl (e30) (by first | (rw [e34]; exact pick_or) | (rw [show b.eval (Operand.tmp 34) = _ from eval_const _]; exact pick_or)) (hK _ _ rfl hG (Below.refl _ _))
    · intro hp K hK
      refine g_no rfl ?_
      have e35 : b.eval (.tmp 35) = .bool ((((decide (n1 < 1)) || (decide (64 < n1))) || (decide (k1 < 1))) || (decide (8 < k1))) := i35.trans (hp 21 (by kernel_rfl))
      exact st_move (.inl rfl) (e35) (hK _ _ rfl hG (Below.refl _ _))
    · intro hp K hK
      refine g_is (j := 22) (want := false) (c := (((decide (n1 < 1)) || (decide (64 < n1))) || (decide (k1 < 1))) || (decide (8 < k1))) rfl (yielded_of (d := 36) rfl rfl (i36.trans (hp 22 (by kernel_rfl)))) (fun hb => ?_) (fun hb => hK _ _ (cond_no hb) hG (Below.refl _ _))
      exact st_move (.inl rfl) (e9) (hK _ _ (cond_yes hb).symm hG (Below.refl _ _))
    · intro hp K hK
      refine g_is (j := 22) (want := false) (c := (((decide (n1 < 1)) || (decide (64 < n1))) || (decide (k1 < 1))) || (decide (8 < k1))) rfl (yielded_of (d := 36) rfl rfl (i36.trans (hp 22 (by kernel_rfl)))) (fun hb => ?_) (fun hb => hK _ _ (cond_no hb) hG (Below.refl _ _))
      have e37 : b.eval (.tmp 37) = (bif (((((decide (n1 < 1)) || (decide (64 < n1))) || (decide (k1 < 1))) || (decide (8 < k1))) == false) then (.int .i64 1) else undef) := i37.trans (hp 23 (by kernel_rfl))
      replace e37 := e37.trans (cond_yes hb)
      exact st_index rfl (e6) (e37) (by kernel_rfl) (hK _ _ (cond_yes hb).symm hG (Below.refl _ _))
    · intro hp K hK
      refine g_is (j := 22) (want := false) (c := (((decide (n1 < 1)) || (decide (64 < n1))) || (decide (k1 < 1))) || (decide (8 < k1))) rfl (yielded_of (d := 36) rfl rfl (i36.trans (hp 22 (by kernel_rfl)))) (fun hb => ?_) (fun hb => hK _ _ (cond_no hb) hG (Below.refl _ _))
      have e38 : b.eval (.tmp 38) = (bif (((((decide (n1 < 1)) || (decide (64 < n1))) || (decide (k1 < 1))) || (decide (8 < k1))) == false) then (.pointer (some ⟨w.heap.size + 1 + 1, 1, none⟩)) else undef) := i38.trans (hp 24 (by kernel_rfl))
      replace e38 := e38.trans (cond_yes hb)
      exact st_load rfl (e38) (ld1 ((blk_cell hG.b2 1).trans rfl)) (hK _ _ (cond_yes hb).symm hG (Below.refl _ _))
    · intro hp K hK
      refine g_is (j := 22) (want := false) (c := (((decide (n1 < 1)) || (decide (64 < n1))) || (decide (k1 < 1))) || (decide (8 < k1))) rfl (yielded_of (d := 36) rfl rfl (i36.trans (hp 22 (by kernel_rfl)))) (fun hb => ?_) (fun hb => hK _ _ (cond_no hb) hG (Below.refl _ _))
      have e39 : b.eval (.tmp 39) = (bif (((((decide (n1 < 1)) || (decide (64 < n1))) || (decide (k1 < 1))) || (decide (8 < k1))) == false) then (.int .i64 s1) else undef) := i39.trans (hp 25 (by kernel_rfl))
      replace e39 := e39.trans (cond_yes hb)
      exact st_bin rfl (e39) (eval_const _) b_lss (hK _ _ (cond_yes hb).symm hG (Below.refl _ _))
    · intro hp K hK
      refine g_no rfl ?_
      have e36 : b.eval (.tmp 36) = .bool ((((decide (n1 < 1)) || (decide (64 < n1))) || (decide (k1 < 1))) || (decide (8 < k1))) := i36.trans (hp 22 (by kernel_rfl))
      have e40 : b.eval (.tmp 40) = (bif (((((decide (n1 < 1)) || (decide (64 < n1))) || (decide (k1 < 1))) || (decide (8 < k1))) == false) then (.bool (decide (s1 < 1))) else undef) := i40.trans (hp 26 (by kernel_rfl))
      exact st_pick rfl (e36) (by first | (rw [e40]; exact pick_or) | (rw [show b.eval (Operand.tmp 40) = _ from eval_const _]; exact pick_or)) (hK _ _ rfl hG (Below.refl _ _))
    · intro hp K hK
      refine g_no rfl ?_
      have e41 : b.eval (.tmp 41) = .bool (((((decide (n1 < 1)) || (decide (64 < n1))) || (decide (k1 < 1))) || (decide (8 < k1))) || (decide (s1 < 1))) := i41.trans (hp 27 (by kernel_rfl))
      exact st_move (.inl rfl) (e41) (hK _ _ rfl hG (Below.refl _ _))
    · intro hp K hK
      refine g_is (j := 28) (want := false) (c := ((((decide (n1 < 1)) || (decide (64 < n1))) || (decide (k1 < 1))) || (decide (8 < k1))) || (decide (s1 < 1))) rfl (yielded_of (d := 42) rfl rfl (i42.trans (hp 28 (by kernel_rfl)))) (fun hb => ?_) (fun hb => hK _ _ (cond_no hb) hG (Below.refl _ _))
      exact st_move (.inl rfl) (e9) (hK _ _ (cond_yes hb).symm hG (Below.refl _ _))
    · intro hp K hK
      refine g_is (j := 28) (want := false) (c := ((((decide (n1 < 1)) || (decide (64 < n1))) || (decide (k1 < 1))) || (decide (8 < k1))) || (decide (s1 < 1))) rfl (yielded_of (d := 42) rfl rfl (i42.trans (hp 28 (by kernel_rfl)))) (fun hb => ?_) (fun hb => hK _ _ (cond_no hb) hG (Below.refl _ _))
      have e43 : b.eval (.tmp 43) = (bif ((((((decide (n1 < 1)) || (decide (64 < n1))) || (decide (k1 < 1))) || (decide (8 < k1))) || (decide (s1 < 1))) == false) then (.int .i64 1) else undef) := i43.trans (hp 29 (by kernel_rfl))
      replace e43 := e43.trans (cond_yes hb)
      exact st_index rfl (e6) (e43) (by kernel_rfl) (hK _ _ (cond_yes hb).symm hG (Below.refl _ _))
    · intro hp K hK
      refine g_is (j := 28) (want := false) (c := ((((decide (n1 < 1)) || (decide (64 < n1))) || (decide (k1 < 1))) || (decide (8 < k1))) || (decide (s1 < 1))) rfl (yielded_of (d := 42) rfl rfl (i42.trans (hp 28 (by kernel_rfl)))) (fun hb => ?_) (fun hb => hK _ _ (cond_no hb) hG (Below.refl _ _))
      have e44 : b.eval (.tmp 44) = (bif ((((((decide (n1 < 1)) || (decide (64 < n1))) || (decide (k1 < 1))) || (decide (8 < k1))) || (decide (s1 < 1))) == false) then (.pointer (some ⟨w.heap.size + 1 + 1, 1, none⟩)) else undef) := i44.trans (hp 30 (by kernel_rfl))
      replace e44 := e44.trans (cond_yes hb)
      exact st_load rfl (e44) (ld1 ((blk_cell hG.b2 1).trans rfl)) (hK _ _ (cond_yes hb).symm hG (Below.refl _ _))
    · intro hp K hK
      refine g_is (j := 28) (want := false) (c := ((((decide (n1 < 1)) || (decide (64 < n1))) || (decide (k1 < 1))) || (decide (8 < k1))) || (decide (s1 < 1))) rfl (yielded_of (d := 42) rfl rfl (i42.trans (hp 28 (by kernel_rfl)))) (fun hb => ?_) (fun hb => hK _ _ (cond_no hb) hG (Below.refl _ _))
      have e45 : b.eval (.tmp 45) = (bif ((((((decide (n1 < 1)) || (decide (64 < n1))) || (decide (k1 < 1))) || (decide (8 < k1))) || (decide (s1 < 1))) == false) then (.int .i64 s1) else undef) := i45.trans (hp 31 (by kernel_rfl))
      replace e45 := e45.trans (cond_yes hb)
      exact st_bin rfl (e45) (eval_const _) b_gtr (hK _ _ (cond_yes hb).symm hG (Below.refl _ _))
    · intro hp K hK
      refine g_no rfl ?_
      have e42 : b.eval (.tmp 42) = .bool (((((decide (n1 < 1)) || (decide (64 < n1))) || (decide (k1 < 1))) || (decide (8 < k1))) || (decide (s1 < 1))) := i42.trans (hp 28 (by kernel_rfl))
      have e46 : b.eval (.tmp 46) = (bif ((((((decide (n1 < 1)) || (decide (64 < n1))) || (decide (k1 < 1))) || (decide (8 < k1))) || (decide (s1 < 1))) == false) then (.bool (decide (8 < s1))) else undef) := i46.trans (hp 32 (by kernel_rfl))
      exact st_pick rfl (e42) (by first | (rw [e46]; exact pick_or) | (rw [show b.eval (Operand.tmp 46) = _ from eval_const _]; exact pick_or)) (hK _ _ rfl hG (Below.refl _ _))
    · intro hp K hK
      refine g_no rfl ?_
      have e47 : b.eval (.tmp 47) = .bool ((((((decide (n1 < 1)) || (decide (64 < n1))) || (decide (k1 < 1))) || (decide (8 < k1))) || (decide (s1 < 1))) || (decide (8 < s1))) := i47.trans (hp 33 (by kernel_rfl))
      exact st_move (.inl rfl) (e47) (hK _ _ rfl hG (Below.refl _ _))
    · intro hp K hK
      refine g_is (j := 34) (want := false) (c := (((((decide (n1 < 1)) || (decide (64 < n1))) || (decide (k1 < 1))) || (decide (8 < k1))) || (decide (s1 < 1))) || (decide (8 < s1))) rfl (yielded_of (d := 48) rfl rfl (i48.trans (hp 34 (by kernel_rfl)))) (fun hb => ?_) (fun hb => hK _ _ (cond_no hb) hG (Below.refl _ _))
      exact st_move (.inl rfl) (e9) (hK _ _ (cond_yes hb).symm hG (Below.refl _ _))
    · intro hp K hK
      refine g_is (j := 34) (want := false) (c := (((((decide (n1 < 1)) || (decide (64 < n1))) || (decide (k1 < 1))) || (decide (8 < k1))) || (decide (s1 < 1))) || (decide (8 < s1))) rfl (yielded_of (d := 48) rfl rfl (i48.trans (hp 34 (by kernel_rfl)))) (fun hb => ?_) (fun hb => hK _ _ (cond_no hb) hG (Below.refl _ _))
      have e49 : b.eval (.tmp 49) = (bif (((((((decide (n1 < 1)) || (decide (64 < n1))) || (decide (k1 < 1))) || (decide (8 < k1))) || (decide (s1 < 1))) || (decide (8 < s1))) == false) then (.int .i64 1) else undef) := i49.trans (hp 35 (by kernel_rfl))
      replace e49 := e49.trans (cond_yes hb)
      exact st_index rfl (e7) (e49) (by kernel_rfl) (hK _ _ (cond_yes hb).symm hG (Below.refl _ _))
    · intro hp K hK
      refine g_is (j := 34) (want := false) (c := (((((decide (n1 < 1)) || (decide (64 < n1))) || (decide (k1 < 1))) || (decide (8 < k1))) || (decide (s1 < 1))) || (decide (8 < s1))) rfl (yielded_of (d := 48) rfl rfl (i48.trans (hp 34 (by kernel_rfl)))) (fun hb => ?_) (fun hb => hK _ _ (cond_no hb) hG (Below.refl _ _))
      have e50 : b.eval (.tmp 50) = (bif (((((((decide (n1 < 1)) || (decide (64 < n1))) || (decide (k1 < 1))) || (decide (8 < k1))) || (decide (s1 < 1))) || (decide (8 < s1))) == false) then (.pointer (some ⟨w.heap.size + 1 + 1 + 1, 1, none⟩)) else undef) := i50.trans (hp 36 (by kernel_rfl))
      replace e50 := e50.trans (cond_yes hb)
      exact st_load rfl (e50) (ld1 ((blk_cell hG.b3 1).trans rfl)) (hK _ _ (cond_yes hb).symm hG (Below.refl _ _))
    · intro hp K hK
      refine g_is (j := 34) (want := false) (c := (((((decide (n1 < 1)) || (decide (64 < n1))) || (decide (k1 < 1))) || (decide (8 < k1))) || (decide (s1 < 1))) || (decide (8 < s1))) rfl (yielded_of (d := 48) rfl rfl (i48.trans (hp 34 (by kernel_rfl)))) (fun hb => ?_) (fun hb => hK _ _ (cond_no hb) hG (Below.refl _ _))
      have e51 : b.eval (.tmp 51) = (bif (((((((decide (n1 < 1)) || (decide (64 < n1))) || (decide (k1 < 1))) || (decide (8 < k1))) || (decide (s1 < 1))) || (decide (8 < s1))) == false) then (.int .i64 p1) else undef) := i51.trans (hp 37 (by kernel_rfl))
      replace e51 := e51.trans (cond_yes hb)
      exact st_bin rfl (e51) (eval_const _) b_lss (hK _ _ (cond_yes hb).symm hG (Below.refl _ _))
    · intro hp K hK
      refine g_no rfl ?_
      have e48 : b.eval (.tmp 48) = .bool ((((((decide (n1 < 1)) || (decide (64 < n1))) || (decide (k1 < 1))) || (decide (8 < k1))) || (decide (s1 < 1))) || (decide (8 < s1))) := i48.trans (hp 34 (by kernel_rfl))
      have e52 : b.eval (.tmp 52) = (bif (((((((decide (n1 < 1)) || (decide (64 < n1))) || (decide (k1 < 1))) || (decide (8 < k1))) || (decide (s1 < 1))) || (decide (8 < s1))) == false) then (.bool (decide (p1 < 0))) else undef) := i52.trans (hp 38 (by kernel_rfl))
      exact st_pick rfl (e48) (by first | (rw [e52]; exact pick_or) | (rw [show b.eval (Operand.tmp 52) = _ from eval_const _]; exact pick_or)) (hK _ _ rfl hG (Below.refl _ _))
    · intro hp K hK
      refine g_no rfl ?_
      have e53 : b.eval (.tmp 53) = .bool (((((((decide (n1 < 1)) || (decide (64 < n1))) || (decide (k1 < 1))) || (decide (8 < k1))) || (decide (s1 < 1))) || (decide (8 < s1))) || (decide (p1 < 0))) := i53.trans (hp 39 (by kernel_rfl))
      exact st_move (.inl rfl) (e53) (hK _ _ rfl hG (Below.refl _ _))
    · intro hp K hK
      refine g_is (j := 40) (want := false) (c := ((((((decide (n1 < 1)) || (decide (64 < n1))) || (decide (k1 < 1))) || (decide (8 < k1))) || (decide (s1 < 1))) || (decide (8 < s1))) || (decide (p1 < 0))) rfl (yielded_of (d := 54) rfl rfl (i54.trans (hp 40 (by kernel_rfl)))) (fun hb => ?_) (fun hb => hK _ _ (cond_no hb) hG (Below.refl _ _))
      exact st_move (.inl rfl) (e9) (hK _ _ (cond_yes hb).symm hG (Below.refl _ _))
    · intro hp K hK
      refine g_is (j := 40) (want := false) (c := ((((((decide (n1 < 1)) || (decide (64 < n1))) || (decide (k1 < 1))) || (decide (8 < k1))) || (decide (s1 < 1))) || (decide (8 < s1))) || (decide (p1 < 0))) rfl (yielded_of (d := 54) rfl rfl (i54.trans (hp 40 (by kernel_rfl)))) (fun hb => ?_) (fun hb => hK _ _ (cond_no hb) hG (Below.refl _ _))
      have e55 : b.eval (.tmp 55) = (bif ((((((((decide (n1 < 1)) || (decide (64 < n1))) || (decide (k1 < 1))) || (decide (8 < k1))) || (decide (s1 < 1))) || (decide (8 < s1))) || (decide (p1 < 0))) == false) then (.int .i64 1) else undef) := i55.trans (hp 41 (by kernel_rfl))
      replace e55 := e55.trans (cond_yes hb)
      exact st_index rfl (e7) (e55) (by kernel_rfl) (hK _ _ (cond_yes hb).symm hG (Below.refl _ _))
    · intro hp K hK
      refine g_is (j := 40) (want := false) (c := ((((((decide (n1 < 1)) || (decide (64 < n1))) || (decide (k1 < 1))) || (decide (8 < k1))) || (decide (s1 < 1))) || (decide (8 < s1))) || (decide (p1 < 0))) rfl (yielded_of (d := 54) rfl rfl (i54.trans (hp 40 (by kernel_rfl)))) (fun hb => ?_) (fun hb => hK _ _ (cond_no hb) hG (Below.refl _ _))
      have e56 : b.eval (.tmp 56) = (bif ((((((((decide (n1 < 1)) || (decide (64 < n1))) || (decide (k1 < 1))) || (decide (8 < k1))) || (decide (s1 < 1))) || (decide (8 < s1))) || (decide (p1 < 0))) == false) then (.pointer (some ⟨w.heap.size + 1 + 1 + 1, 1, none⟩)) else undef) := i56.trans (hp 42 (by kernel_rfl))
      replace e56 := e56.trans (cond_yes hb)
      exact st_load rfl (e56) (ld1 ((blk_cell hG.b3 1).trans rfl)) (hK _ _ (cond_yes hb).symm hG (Below.refl _ _))
    · intro hp K hK
      refine g_is (j := 40) (want := false) (c := ((((((decide (n1 < 1)) || (decide (64 < n1))) || (decide (k1 < 1))) || (decide (8 < k1))) || (decide (s1 < 1))) || (decide (8 < s1))) || (decide (p1 < 0))) rfl (yielded_of (d := 54) rfl rfl (i54.trans (hp 40 (by kernel_rfl)))) (fun hb => ?_) (fun hb => hK _ _ (cond_no hb) hG (Below.refl _ _))
      exact st_move (.inl rfl) (e9) (hK _ _ (cond_yes hb).symm hG (Below.refl _ _))
    · intro hp K hK
      refine g_is (j := 40) (want := false) (c := ((((((decide (n1 < 1)) || (decide (64 < n1))) || (decide (k1 < 1))) || (decide (8 < k1))) || (decide (s1 < 1))) || (decide (8 < s1))) || (decide (p1 < 0))) rfl (yielded_of (d := 54) rfl rfl (i54.trans (hp 40 (by kernel_rfl)))) (fun hb => ?_) (fun hb => hK _ _ (cond_no hb) hG (Below.refl _ _))
      have e58 : b.eval (.tmp 58) = (bif ((((((((decide (n1 < 1)) || (decide (64 < n1))) || (decide (k1 < 1))) || (decide (8 < k1))) || (decide (s1 < 1))) || (decide (8 < s1))) || (decide (p1 < 0))) == false) then (.int .i64 1) else undef) := i58.trans (hp 44 (by kernel_rfl))
      replace e58 := e58.trans (cond_yes hb)
      exact st_index rfl (e5) (e58) (by kernel_rfl) (hK _ _ (cond_yes hb).symm hG (Below.refl _ _))
    · intro hp K hK
      refine g_is (j := 40) (want := false) (c := ((((((decide (n1 < 1)) || (decide (64 < n1))) || (decide (k1 < 1))) || (decide (8 < k1))) || (decide (s1 < 1))) || (decide (8 < s1))) || (decide (p1 < 0))) rfl (yielded_of (d := 54) rfl rfl (i54.trans (hp 40 (by kernel_rfl)))) (fun hb => ?_) (fun hb => hK _ _ (cond_no hb) hG (Below.refl _ _))
      have e59 : b.eval (.tmp 59) = (bif ((((((((decide (n1 < 1)) || (decide (64 < n1))) || (decide (k1 < 1))) || (decide (8 < k1))) || (decide (s1 < 1))) || (decide (8 < s1))) || (decide (p1 < 0))) == false) then (.pointer (some ⟨w.heap.size + 1, 1, none⟩)) else undef) := i59.trans (hp 45 (by kernel_rfl))
      replace e59 := e59.trans (cond_yes hb)
      exact st_load rfl (e59) (ld1 ((blk_cell hG.b1 1).trans rfl)) (hK _ _ (cond_yes hb).symm hG (Below.refl _ _))
    · intro hp K hK
      refine g_is (j := 40) (want := false) (c := ((((((decide (n1 < 1)) || (decide (64 < n1))) || (decide (k1 < 1))) || (decide (8 < k1))) || (decide (s1 < 1))) || (decide (8 < s1))) || (decide (p1 < 0))) rfl (yielded_of (d := 54) rfl rfl (i54.trans (hp 40 (by kernel_rfl)))) (fun hb => ?_) (fun hb => hK _ _ (cond_no hb) hG (Below.refl _ _))
      have e57 : b.eval (.tmp 57) = (bif ((((((((decide (n1 < 1)) || (decide (64 < n1))) || (decide (k1 < 1))) || (decide (8 < k1))) || (decide (s1 < 1))) || (decide (8 < s1))) || (decide (p1 < 0))) == false) then (.int .i64 p1) else undef) := i57.trans (hp 43 (by kernel_rfl))
      replace e57 := e57.trans (cond_yes hb)
      have e60 : b.eval (.tmp 60) = (bif ((((((((decide (n1 < 1)) || (decide (64 < n1))) || (decide (k1 < 1))) || (decide (8 < k1))) || (decide (s1 < 1))) || (decide (8 < s1))) || (decide (p1 < 0))) == false) then (.int .i64 k1) else undef) := i60.trans (hp 46 (by kernel_rfl))
      replace e60 := e60.trans (cond_yes hb)
      exact st_bin rfl (e57) (e60) b_geq (hK _ _ (cond_yes hb).symm hG (Below.refl _ _))
    · intro hp K hK
      refine g_no rfl ?_
      have e54 : b.eval (.tmp 54) = .bool (((((((decide (n1 < 1)) || (decide (64 < n1))) || (decide (k1 < 1))) || (decide (8 < k1))) || (decide (s1 < 1))) || (decide (8 < s1))) || (decide (p1 < 0))) := i54.trans (hp 40 (by kernel_rfl))
      have e61 : b.eval (.tmp 61) = (bif ((((((((decide (n1 < 1)) || (decide (64 < n1))) || (decide (k1 < 1))) || (decide (8 < k1))) || (decide (s1 < 1))) || (decide (8 < s1))) || (decide (p1 < 0))) == false) then (.bool (decide (k1 ≤ p1))) else undef) := i61.trans (hp 47 (by kernel_rfl))
      exact st_pick rfl (e54) (by first | (rw [e61]; exact pick_or) | (rw [show b.eval (Operand.tmp 61) = _ from eval_const _]; exact pick_or)) (hK _ _ rfl hG (Below.refl _ _))
    · intro hp K hK
      refine g_no rfl ?_
      have e62 : b.eval (.tmp 62) = .bool ((((((((decide (n1 < 1)) || (decide (64 < n1))) || (decide (k1 < 1))) || (decide (8 < k1))) || (decide (s1 < 1))) || (decide (8 < s1))) || (decide (p1 < 0))) || (decide (k1 ≤ p1))) := i62.trans (hp 48 (by kernel_rfl))
      exact st_move (.inl rfl) (e62) (hK _ _ rfl hG (Below.refl _ _))
    · intro hp K hK
      refine g_is (j := 49) (want := false) (c := (((((((decide (n1 < 1)) || (decide (64 < n1))) || (decide (k1 < 1))) || (decide (8 < k1))) || (decide (s1 < 1))) || (decide (8 < s1))) || (decide (p1 < 0))) || (decide (k1 ≤ p1))) rfl (yielded_of (d := 63) rfl rfl (i63.trans (hp 49 (by kernel_rfl)))) (fun hb => ?_) (fun hb => hK _ _ (cond_no hb) hG (Below.refl _ _))
      exact st_move (.inl rfl) (e9) (hK _ _ (cond_yes hb).symm hG (Below.refl _ _))
    · intro hp K hK
      refine g_is (j := 49) (want := false) (c := (((((((decide (n1 < 1)) || (decide (64 < n1))) || (decide (k1 < 1))) || (decide (8 < k1))) || (decide (s1 < 1))) || (decide (8 < s1))) || (decide (p1 < 0))) || (decide (k1 ≤ p1))) rfl (yielded_of (d := 63) rfl rfl (i63.trans (hp 49 (by kernel_rfl)))) (fun hb => ?_) (fun hb => hK _ _ (cond_no hb) hG (Below.refl _ _))
      have e64 : b.eval (.tmp 64) = (bif (((((((((decide (n1 < 1)) || (decide (64 < n1))) || (decide (k1 < 1))) || (decide (8 < k1))) || (decide (s1 < 1))) || (decide (8 < s1))) || (decide (p1 < 0))) || (decide (k1 ≤ p1))) == false) then (.int .i64 1) else undef) := i64.trans (hp 50 (by kernel_rfl))
      replace e64 := e64.trans (cond_yes hb)
      exact st_bin rfl (e64) (eval_const _) (b_add (by first | rfl | exact IntWalk.i64_in _ (by omega))) (hK _ _ (cond_yes hb).symm hG (Below.refl _ _))
    · intro hp K hK
      refine g_is (j := 49) (want := false) (c := (((((((decide (n1 < 1)) || (decide (64 < n1))) || (decide (k1 < 1))) || (decide (8 < k1))) || (decide (s1 < 1))) || (decide (8 < s1))) || (decide (p1 < 0))) || (decide (k1 ≤ p1))) rfl (yielded_of (d := 63) rfl rfl (i63.trans (hp 49 (by kernel_rfl)))) (fun hb => ?_) (fun hb => hK _ _ (cond_no hb) hG (Below.refl _ _))
      have e65 : b.eval (.tmp 65) = (bif (((((((((decide (n1 < 1)) || (decide (64 < n1))) || (decide (k1 < 1))) || (decide (8 < k1))) || (decide (s1 < 1))) || (decide (8 < s1))) || (decide (p1 < 0))) || (decide (k1 ≤ p1))) == false) then (.int .i64 (3)) else undef) := i65.trans (hp 51 (by kernel_rfl))
      replace e65 := e65.trans (cond_yes hb)
      exact st_index rfl (e7) (e65) (by kernel_rfl) (hK _ _ (cond_yes hb).symm hG (Below.refl _ _))
    · intro hp K hK
      refine g_is (j := 49) (want := false) (c := (((((((decide (n1 < 1)) || (decide (64 < n1))) || (decide (k1 < 1))) || (decide (8 < k1))) || (decide (s1 < 1))) || (decide (8 < s1))) || (decide (p1 < 0))) || (decide (k1 ≤ p1))) rfl (yielded_of (d := 63) rfl rfl (i63.trans (hp 49 (by kernel_rfl)))) (fun hb => ?_) (fun hb => hK _ _ (cond_no hb) hG (Below.refl _ _))
      have e66 : b.eval (.tmp 66) = (bif (((((((((decide (n1 < 1)) || (decide (64 < n1))) || (decide (k1 < 1))) || (decide (8 < k1))) || (decide (s1 < 1))) || (decide (8 < s1))) || (decide (p1 < 0))) || (decide (k1 ≤ p1))) == false) then (.pointer (some ⟨w.heap.size + 1 + 1 + 1, 3, none⟩)) else undef) := i66.trans (hp 52 (by kernel_rfl))
      replace e66 := e66.trans (cond_yes hb)
      exact st_load rfl (e66) (ld1 ((blk_cell hG.b3 3).trans rfl)) (hK _ _ (cond_yes hb).symm hG (Below.refl _ _))
    · intro hp K hK
      refine g_is (j := 49) (want := false) (c := (((((((decide (n1 < 1)) || (decide (64 < n1))) || (decide (k1 < 1))) || (decide (8 < k1))) || (decide (s1 < 1))) || (decide (8 < s1))) || (decide (p1 < 0))) || (decide (k1 ≤ p1))) rfl (yielded_of (d := 63) rfl rfl (i63.trans (hp 49 (by kernel_rfl)))) (fun hb => ?_) (fun hb => hK _ _ (cond_no hb) hG (Below.refl _ _))
      have e67 : b.eval (.tmp 67) = (bif (((((((((decide (n1 < 1)) || (decide (64 < n1))) || (decide (k1 < 1))) || (decide (8 < k1))) || (decide (s1 < 1))) || (decide (8 < s1))) || (decide (p1 < 0))) || (decide (k1 ≤ p1))) == false) then (.int .i64 p3) else undef) := i67.trans (hp 53 (by kernel_rfl))
      replace e67 := e67.trans (cond_yes hb)
      exact st_bin rfl (e67) (eval_const _) b_lss (hK _ _ (cond_yes hb).symm hG (Below.refl _ _))
    · intro hp K hK
      refine g_no rfl ?_
      have e63 : b.eval (.tmp 63) = .bool ((((((((decide (n1 < 1)) || (decide (64 < n1))) || (decide (k1 < 1))) || (decide (8 < k1))) || (decide (s1 < 1))) || (decide (8 < s1))) || (decide (p1 < 0))) || (decide (k1 ≤ p1))) := i63.trans (hp 49 (by kernel_rfl))
      have e68 : b.eval (.tmp 68) = (bif (((((((((decide (n1 < 1)) || (decide (64 < n1))) || (decide (k1 < 1))) || (decide (8 < k1))) || (decide (s1 < 1))) || (decide (8 < s1))) || (decide (p1 < 0))) || (decide (k1 ≤ p1))) == false) then (.bool (decide (p3 < 0))) else undef) := i68.trans (hp 54 (by kernel_rfl))
      exact st_pick rfl (e63) (by first | (rw [e68]; exact pick_or) | (rw [show b.eval (Operand.tmp 68) = _ from eval_const _]; exact pick_or)) (hK _ _ rfl hG (Below.refl _ _))
    · intro hp K hK
      refine g_no rfl ?_
      have e69 : b.eval (.tmp 69) = .bool (((((((((decide (n1 < 1)) || (decide (64 < n1))) || (decide (k1 < 1))) || (decide (8 < k1))) || (decide (s1 < 1))) || (decide (8 < s1))) || (decide (p1 < 0))) || (decide (k1 ≤ p1))) || (decide (p3 < 0))) := i69.trans (hp 55 (by kernel_rfl))
      exact st_move (.inl rfl) (e69) (hK _ _ rfl hG (Below.refl _ _))
    · intro hp K hK
      refine g_is (j := 56) (want := false) (c := ((((((((decide (n1 < 1)) || (decide (64 < n1))) || (decide (k1 < 1))) || (decide (8 < k1))) || (decide (s1 < 1))) || (decide (8 < s1))) || (decide (p1 < 0))) || (decide (k1 ≤ p1))) || (decide (p3 < 0))) rfl (yielded_of (d := 70) rfl rfl (i70.trans (hp 56 (by kernel_rfl)))) (fun hb => ?_) (fun hb => hK _ _ (cond_no hb) hG (Below.refl _ _))
      exact st_move (.inl rfl) (e9) (hK _ _ (cond_yes hb).symm hG (Below.refl _ _))
    · intro hp K hK
      refine g_is (j := 56) (want := false) (c := ((((((((decide (n1 < 1)) || (decide (64 < n1))) || (decide (k1 < 1))) || (decide (8 < k1))) || (decide (s1 < 1))) || (decide (8 < s1))) || (decide (p1 < 0))) || (decide (k1 ≤ p1))) || (decide (p3 < 0))) rfl (yielded_of (d := 70) rfl rfl (i70.trans (hp 56 (by kernel_rfl)))) (fun hb => ?_) (fun hb => hK _ _ (cond_no hb) hG (Below.refl _ _))
      have e71 : b.eval (.tmp 71) = (bif ((((((((((decide (n1 < 1)) || (decide (64 < n1))) || (decide (k1 < 1))) || (decide (8 < k1))) || (decide (s1 < 1))) || (decide (8 < s1))) || (decide (p1 < 0))) || (decide (k1 ≤ p1))) || (decide (p3 < 0))) == false) then (.int .i64 1) else undef) := i71.trans (hp 57 (by kernel_rfl))
      replace e71 := e71.trans (cond_yes hb)
      exact st_bin rfl (e71) (eval_const _) (b_add (by first | rfl | exact IntWalk.i64_in _ (by omega))) (hK _ _ (cond_yes hb).symm hG (Below.refl _ _))
    · intro hp K hK
      refine g_is (j := 56) (want := false) (c := ((((((((decide (n1 < 1)) || (decide (64 < n1))) || (decide (k1 < 1))) || (decide (8 < k1))) || (decide (s1 < 1))) || (decide (8 < s1))) || (decide (p1 < 0))) || (decide (k1 ≤ p1))) || (decide (p3 < 0))) rfl (yielded_of (d := 70) rfl rfl (i70.trans (hp 56 (by kernel_rfl)))) (fun hb => ?_) (fun hb => hK _ _ (cond_no hb) hG (Below.refl _ _))
      have e72 : b.eval (.tmp 72) = (bif ((((((((((decide (n1 < 1)) || (decide (64 < n1))) || (decide (k1 < 1))) || (decide (8 < k1))) || (decide (s1 < 1))) || (decide (8 < s1))) || (decide (p1 < 0))) || (decide (k1 ≤ p1))) || (decide (p3 < 0))) == false) then (.int .i64 (3)) else undef) := i72.trans (hp 58 (by kernel_rfl))
      replace e72 := e72.trans (cond_yes hb)
      exact st_index rfl (e7) (e72) (by kernel_rfl) (hK _ _ (cond_yes hb).symm hG (Below.refl _ _))
    · intro hp K hK
      refine g_is (j := 56) (want := false) (c := ((((((((decide (n1 < 1)) || (decide (64 < n1))) || (decide (k1 < 1))) || (decide (8 < k1))) || (decide (s1 < 1))) || (decide (8 < s1))) || (decide (p1 < 0))) || (decide (k1 ≤ p1))) || (decide (p3 < 0))) rfl (yielded_of (d := 70) rfl rfl (i70.trans (hp 56 (by kernel_rfl)))) (fun hb => ?_) (fun hb => hK _ _ (cond_no hb) hG (Below.refl _ _))
      have e73 : b.eval (.tmp 73) = (bif ((((((((((decide (n1 < 1)) || (decide (64 < n1))) || (decide (k1 < 1))) || (decide (8 < k1))) || (decide (s1 < 1))) || (decide (8 < s1))) || (decide (p1 < 0))) || (decide (k1 ≤ p1))) || (decide (p3 < 0))) == false) then (.pointer (some ⟨w.heap.size + 1 + 1 + 1, 3, none⟩)) else undef) := i73.trans (hp 59 (by kernel_rfl))
      replace e73 := e73.trans (cond_yes hb)
      exact st_load rfl (e73) (ld1 ((blk_cell hG.b3 3).trans rfl)) (hK _ _ (cond_yes hb).symm hG (Below.refl _ _))
    · intro hp K hK
      refine g_is (j := 56) (want := false) (c := ((((((((decide (n1 < 1)) || (decide (64 < n1))) || (decide (k1 < 1))) || (decide (8 < k1))) || (decide (s1 < 1))) || (decide (8 < s1))) || (decide (p1 < 0))) || (decide (k1 ≤ p1))) || (decide (p3 < 0))) rfl (yielded_of (d := 70) rfl rfl (i70.trans (hp 56 (by kernel_rfl)))) (fun hb => ?_) (fun hb => hK _ _ (cond_no hb) hG (Below.refl _ _))
      exact st_move (.inl rfl) (e9) (hK _ _ (cond_yes hb).symm hG (Below.refl _ _))
    · intro hp K hK
      refine g_is (j := 56) (want := false) (c := ((((((((decide (n1 < 1)) || (decide (64 < n1))) || (decide (k1 < 1))) || (decide (8 < k1))) || (decide (s1 < 1))) || (decide (8 < s1))) || (decide (p1 < 0))) || (decide (k1 ≤ p1))) || (decide (p3 < 0))) rfl (yielded_of (d := 70) rfl rfl (i70.trans (hp 56 (by kernel_rfl)))) (fun hb => ?_) (fun hb => hK _ _ (cond_no hb) hG (Below.refl _ _))
      have e75 : b.eval (.tmp 75) = (bif ((((((((((decide (n1 < 1)) || (decide (64 < n1))) || (decide (k1 < 1))) || (decide (8 < k1))) || (decide (s1 < 1))) || (decide (8 < s1))) || (decide (p1 < 0))) || (decide (k1 ≤ p1))) || (decide (p3 < 0))) == false) then (.int .i64 1) else undef) := i75.trans (hp 61 (by kernel_rfl))
      replace e75 := e75.trans (cond_yes hb)
      exact st_index rfl (e5) (e75) (by kernel_rfl) (hK _ _ (cond_yes hb).symm hG (Below.refl _ _))
    · intro hp K hK
      refine g_is (j := 56) (want := false) (c := ((((((((decide (n1 < 1)) || (decide (64 < n1))) || (decide (k1 < 1))) || (decide (8 < k1))) || (decide (s1 < 1))) || (decide (8 < s1))) || (decide (p1 < 0))) || (decide (k1 ≤ p1))) || (decide (p3 < 0))) rfl (yielded_of (d := 70) rfl rfl (i70.trans (hp 56 (by kernel_rfl)))) (fun hb => ?_) (fun hb => hK _ _ (cond_no hb) hG (Below.refl _ _))
      have e76 : b.eval (.tmp 76) = (bif ((((((((((decide (n1 < 1)) || (decide (64 < n1))) || (decide (k1 < 1))) || (decide (8 < k1))) || (decide (s1 < 1))) || (decide (8 < s1))) || (decide (p1 < 0))) || (decide (k1 ≤ p1))) || (decide (p3 < 0))) == false) then (.pointer (some ⟨w.heap.size + 1, 1, none⟩)) else undef) := i76.trans (hp 62 (by kernel_rfl))
      replace e76 := e76.trans (cond_yes hb)
      exact st_load rfl (e76) (ld1 ((blk_cell hG.b1 1).trans rfl)) (hK _ _ (cond_yes hb).symm hG (Below.refl _ _))
    · intro hp K hK
      refine g_is (j := 56) (want := false) (c := ((((((((decide (n1 < 1)) || (decide (64 < n1))) || (decide (k1 < 1))) || (decide (8 < k1))) || (decide (s1 < 1))) || (decide (8 < s1))) || (decide (p1 < 0))) || (decide (k1 ≤ p1))) || (decide (p3 < 0))) rfl (yielded_of (d := 70) rfl rfl (i70.trans (hp 56 (by kernel_rfl)))) (fun hb => ?_) (fun hb => hK _ _ (cond_no hb) hG (Below.refl _ _))
      have e74 : b.eval (.tmp 74) = (bif ((((((((((decide (n1 < 1)) || (decide (64 < n1))) || (decide (k1 < 1))) || (decide (8 < k1))) || (decide (s1 < 1))) || (decide (8 < s1))) || (decide (p1 < 0))) || (decide (k1 ≤ p1))) || (decide (p3 < 0))) == false) then (.int .i64 p3) else undef) := i74.trans (hp 60 (by kernel_rfl))
      replace e74 := e74.trans (cond_yes hb)
      have e77 : b.eval (.tmp 77) = (bif ((((((((((decide (n1 < 1)) || (decide (64 < n1))) || (decide (k1 < 1))) || (decide (8 < k1))) || (decide (s1 < 1))) || (decide (8 < s1))) || (decide (p1 < 0))) || (decide (k1 ≤ p1))) || (decide (p3 < 0))) == false) then (.int .i64 k1) else undef) := i77.trans (hp 63 (by kernel_rfl))
      replace e77 := e77.trans (cond_yes hb)
      exact st_bin rfl (e74) (e77) b_geq (hK _ _ (cond_yes hb).symm hG (Below.refl _ _))
    · intro hp K hK
      refine g_no rfl ?_
      have e70 : b.eval (.tmp 70) = .bool (((((((((decide (n1 < 1)) || (decide (64 < n1))) || (decide (k1 < 1))) || (decide (8 < k1))) || (decide (s1 < 1))) || (decide (8 < s1))) || (decide (p1 < 0))) || (decide (k1 ≤ p1))) || (decide (p3 < 0))) := i70.trans (hp 56 (by kernel_rfl))
      have e78 : b.eval (.tmp 78) = (bif ((((((((((decide (n1 < 1)) || (decide (64 < n1))) || (decide (k1 < 1))) || (decide (8 < k1))) || (decide (s1 < 1))) || (decide (8 < s1))) || (decide (p1 < 0))) || (decide (k1 ≤ p1))) || (decide (p3 < 0))) == false) then (.bool (decide (k1 ≤ p3))) else undef) := i78.trans (hp 64 (by kernel_rfl))
      exact st_pick rfl (e70) (by first | (rw [e78]; exact pick_or) | (rw [show b.eval ((Operand.tmp 78)) = _ from eval_const _]; exact pick_or)) (hK _ _ rfl hG (Below.refl _ _))
  intro vs W hG hp b hb
  have q65 : vs 65 = .bool (badB n1 k1 s1 p1 p3) := hp 65 (by decide)
  clear hp
  simp only [fill, Act.put, List.append_eq, List.cons_append, List.nil_append, List.take_succ_cons, List.take_zero, List.setIfInBounds_toArray, List.set_cons_succ, List.set_cons_zero, Nat.reduceAdd, Nat.zero_add, q65] at hb
  subst hb
  refine wpList_nil ?_
  clear q65
  clear J
  have J := Lib.hid hG
  clear hG
  go_wp2
  · go_ret
    exact ⟨by rename_i hbad; rw [show goodV n0 n1 k0 k1 s0 s1 p0 p1 p2 p3 = false from by simp [goodV, hbad]]; rfl, J.out.bel⟩
  have hno1 : badB n1 k1 s1 p1 p3 = false := by assumption
  have B1 := Lib.hid (badB_no hno1)
  have N1 := Lib.hid hno1
  clear hno1
  replace J := J.out
  refine wp_drawn (R := fun W W' => Below W.heap.size W W') 16 [.val (.int .i64 1), .val (.pointer (some ⟨w.heap.size, 1, none⟩)), .val (.int .i64 n1), .val (.int .i64 1), .val (.pointer (some ⟨w.heap.size + 1 + 1 + 1, 1, none⟩)), .val (.int .i64 p1), .val (.int .i64 (n1 + p1)), .val (.int .i64 1), .val (.int .i64 (3)), .val (.pointer (some ⟨w.heap.size + 1 + 1 + 1, 3, none⟩)), .val (.int .i64 p3), .val (.int .i64 ((n1 + p1) + p3)), .val (.int .i64 1), .val (.pointer (some ⟨w.heap.size + 1, 1, none⟩)), .val (.int .i64 k1), .val (.bool (shortB n1 k1 p1 p3))] (fun W => O4 n0 n1 k0 k1 s0 s1 p0 p1 p2 p3 w W) rfl (by kernel_rfl) J.drew ?_ ?_
  · intro vs W hG b hb
    have e4 : b.eval (.tmp 4) = .pointer (some ⟨w.heap.size, 0, none⟩) := (congrArg (fun x => Act.eval x (.tmp 4)) hb).trans ((fill_out _ 0 _ (by kernel_rfl)).trans rfl)
    have e5 : b.eval (.tmp 5) = .pointer (some ⟨w.heap.size + 1, 0, none⟩) := (congrArg (fun x => Act.eval x (.tmp 5)) hb).trans ((fill_out _ 0 _ (by kernel_rfl)).trans rfl)
    have e7 : b.eval (.tmp 7) = .pointer (some ⟨w.heap.size + 1 + 1 + 1, 0, none⟩) := (congrArg (fun x => Act.eval x (.tmp 7)) hb).trans ((fill_out _ 0 _ (by kernel_rfl)).trans rfl)
    have e9 : b.eval (.tmp 9) = .int .i64 1 := (congrArg (fun x => Act.eval x (.tmp 9)) hb).trans ((fill_out _ 0 _ (by kernel_rfl)).trans rfl)
    have i80 : b.eval (.tmp 80) = vs 0 := (congrArg (fun x => Act.eval x (.tmp 80)) hb).trans ((fill_in _ 0 0 _ _ 80 (by kernel_rfl) rfl rfl (by simp)).trans (congrArg vs (Nat.zero_add _)))
    have i81 : b.eval (.tmp 81) = vs 1 := (congrArg (fun x => Act.eval x (.tmp 81)) hb).trans ((fill_in _ 0 1 _ _ 81 (by kernel_rfl) rfl rfl (by simp)).trans (congrArg vs (Nat.zero_add _)))
    have i82 : b.eval (.tmp 82) = vs 2 := (congrArg (fun x => Act.eval x (.tmp 82)) hb).trans ((fill_in _ 0 2 _ _ 82 (by kernel_rfl) rfl rfl (by simp)).trans (congrArg vs (Nat.zero_add _)))
    have i83 : b.eval (.tmp 83) = vs 3 := (congrArg (fun x => Act.eval x (.tmp 83)) hb).trans ((fill_in _ 0 3 _ _ 83 (by kernel_rfl) rfl rfl (by simp)).trans (congrArg vs (Nat.zero_add _)))
    have i84 : b.eval (.tmp 84) = vs 4 := (congrArg (fun x => Act.eval x (.tmp 84)) hb).trans ((fill_in _ 0 4 _ _ 84 (by kernel_rfl) rfl rfl (by simp)).trans (congrArg vs (Nat.zero_add _)))
    have i85 : b.eval (.tmp 85) = vs 5 := (congrArg (fun x => Act.eval x (.tmp 85)) hb).trans ((fill_in _ 0 5 _ _ 85 (by kernel_rfl) rfl rfl (by simp)).trans (congrArg vs (Nat.zero_add _)))
    have i86 : b.eval (.tmp 86) = vs 6 := (congrArg (fun x => Act.eval x (.tmp 86)) hb).trans ((fill_in _ 0 6 _ _ 86 (by kernel_rfl) rfl rfl (by simp)).trans (congrArg vs (Nat.zero_add _)))
    have i87 : b.eval (.tmp 87) = vs 7 := (congrArg (fun x => Act.eval x (.tmp 87)) hb).trans ((fill_in _ 0 7 _ _ 87 (by kernel_rfl) rfl rfl (by simp)).trans (congrArg vs (Nat.zero_add _)))
    have i88 : b.eval (.tmp 88) = vs 8 := (congrArg (fun x => Act.eval x (.tmp 88)) hb).trans ((fill_in _ 0 8 _ _ 88 (by kernel_rfl) rfl rfl (by simp)).trans (congrArg vs (Nat.zero_add _)))
    have i89 : b.eval (.tmp 89) = vs 9 := (congrArg (fun x => Act.eval x (.tmp 89)) hb).trans ((fill_in _ 0 9 _ _ 89 (by kernel_rfl) rfl rfl (by simp)).trans (congrArg vs (Nat.zero_add _)))
    have i90 : b.eval (.tmp 90) = vs 10 := (congrArg (fun x => Act.eval x (.tmp 90)) hb).trans ((fill_in _ 0 10 _ _ 90 (by kernel_rfl) rfl rfl (by simp)).trans (congrArg vs (Nat.zero_add _)))
    have i91 : b.eval (.tmp 91) = vs 11 := (congrArg (fun x => Act.eval x (.tmp 91)) hb).trans ((fill_in _ 0 11 _ _ 91 (by kernel_rfl) rfl rfl (by simp)).trans (congrArg vs (Nat.zero_add _)))
    have i92 : b.eval (.tmp 92) = vs 12 := (congrArg (fun x => Act.eval x (.tmp 92)) hb).trans ((fill_in _ 0 12 _ _ 92 (by kernel_rfl) rfl rfl (by simp)).trans (congrArg vs (Nat.zero_add _)))
    have i93 : b.eval (.tmp 93) = vs 13 := (congrArg (fun x => Act.eval x (.tmp 93)) hb).trans ((fill_in _ 0 13 _ _ 93 (by kernel_rfl) rfl rfl (by simp)).trans (congrArg vs (Nat.zero_add _)))
    have i94 : b.eval (.tmp 94) = vs 14 := (congrArg (fun x => Act.eval x (.tmp 94)) hb).trans ((fill_in _ 0 14 _ _ 94 (by kernel_rfl) rfl rfl (by simp)).trans (congrArg vs (Nat.zero_add _)))
    clear hb
    refine And.intro ?_ (And.intro ?_ (And.intro ?_ (And.intro ?_ (And.intro ?_ (And.intro ?_ (And.intro ?_ (And.intro ?_ (And.intro ?_ (And.intro ?_ (And.intro ?_ (And.intro ?_ (And.intro ?_ (And.intro ?_ (And.intro ?_ (And.intro ?_ (trivial))))))))))))))))
    · intro hp K hK
      refine g_no rfl ?_
      exact st_move (.inl rfl) (e9) (hK _ _ rfl hG (Below.refl _ _))
    · intro hp K hK
      refine g_no rfl ?_
      have e80 : b.eval (.tmp 80) = .int .i64 1 := i80.trans (hp 0 (by kernel_rfl))
      exact st_index rfl (e4) (e80) (by kernel_rfl) (hK _ _ rfl hG (Below.refl _ _))
    · intro hp K hK
      refine g_no rfl ?_
      have e81 : b.eval (.tmp 81) = .pointer (some ⟨w.heap.size, 1, none⟩) := i81.trans (hp 1 (by kernel_rfl))
      exact st_load rfl (e81) (ld1 ((blk_cell hG.b0 1).trans rfl)) (hK _ _ rfl hG (Below.refl _ _))
    · intro hp K hK
      refine g_no rfl ?_
      exact st_move (.inl rfl) (e9) (hK _ _ rfl hG (Below.refl _ _))
    · intro hp K hK
      refine g_no rfl ?_
      have e83 : b.eval (.tmp 83) = .int .i64 1 := i83.trans (hp 3 (by kernel_rfl))
      exact st_index rfl (e7) (e83) (by kernel_rfl) (hK _ _ rfl hG (Below.refl _ _))
    · intro hp K hK
      refine g_no rfl ?_
      have e84 : b.eval (.tmp 84) = .pointer (some ⟨w.heap.size + 1 + 1 + 1, 1, none⟩) := i84.trans (hp 4 (by kernel_rfl))
      exact st_load rfl (e84) (ld1 ((blk_cell hG.b3 1).trans rfl)) (hK _ _ rfl hG (Below.refl _ _))
    · intro hp K hK
      refine g_no rfl ?_
      have e82 : b.eval (.tmp 82) = .int .i64 n1 := i82.trans (hp 2 (by kernel_rfl))
      have e85 : b.eval (.tmp 85) = .int .i64 p1 := i85.trans (hp 5 (by kernel_rfl))
      have B := B1.out
      exact st_bin rfl (e82) (e85) (b_add (by first | rfl | exact IntWalk.i64_in _ (by omega))) (hK _ _ rfl hG (Below.refl _ _))
    · intro hp K hK
      refine g_no rfl ?_
      exact st_move (.inl rfl) (e9) (hK _ _ rfl hG (Below.refl _ _))
    · intro hp K hK
      refine g_no rfl ?_
      have e87 : b.eval (.tmp 87) = .int .i64 1 := i87.trans (hp 7 (by kernel_rfl))
      exact st_bin rfl (e87) (eval_const _) (b_add (by first | rfl | exact IntWalk.i64_in _ (by omega))) (hK _ _ rfl hG (Below.refl _ _))
    · intro hp K hK
      refine g_no rfl ?_
      have e88 : b.eval (.tmp 88) = .int .i64 (3) := i88.trans (hp 8 (by kernel_rfl))
      exact st_index rfl (e7) (e88) (by kernel_rfl) (hK _ _ rfl hG (Below.refl _ _))
    · intro hp K hK
      refine g_no rfl ?_
      have e89 : b.eval (.tmp 89) = .pointer (some ⟨w.heap.size + 1 + 1 + 1, 3, none⟩) := i89.trans (hp 9 (by kernel_rfl))
      exact st_load rfl (e89) (ld1 ((blk_cell hG.b3 3).trans rfl)) (hK _ _ rfl hG (Below.refl _ _))
    · intro hp K hK
      refine g_no rfl ?_
      have e86 : b.eval (.tmp 86) = .int .i64 (n1 + p1) := i86.trans (hp 6 (by kernel_rfl))
      have e90 : b.eval (.tmp 90) = .int .i64 p3 := i90.trans (hp 10 (by kernel_rfl))
      have B := B1.out
      exact st_bin rfl (e86) (e90) (b_add (by first | rfl | exact IntWalk.i64_in _ (by omega))) (hK _ _ rfl hG (Below.refl _ _))
    · intro hp K hK
      refine g_no rfl ?_
      exact st_move (.inl rfl) (e9) (hK _ _ rfl hG (Below.refl _ _))
    · intro hp K hK
      refine g_no rfl ?_
      have e92 : b.eval (.tmp 92) = .int .i64 1 := i92.trans (hp 12 (by kernel_rfl))
      exact st_index rfl (e5) (e92) (by kernel_rfl) (hK _ _ rfl hG (Below.refl _ _))
    · intro hp K hK
      refine g_no rfl ?_
      have e93 : b.eval (.tmp 93) = .pointer (some ⟨w.heap.size + 1, 1, none⟩) := i93.trans (hp 13 (by kernel_rfl))
      exact st_load rfl (e93) (ld1 ((blk_cell hG.b1 1).trans rfl)) (hK _ _ rfl hG (Below.refl _ _))
    · intro hp K hK
      refine g_no rfl ?_
      have e91 : b.eval (.tmp 91) = .int .i64 ((n1 + p1) + p3) := i91.trans (hp 11 (by kernel_rfl))
      have e94 : b.eval (.tmp 94) = .int .i64 k1 := i94.trans (hp 14 (by kernel_rfl))
      exact st_bin rfl (e91) (e94) b_lss (hK _ _ rfl hG (Below.refl _ _))
  intro vs W hG hp b hb
  have q15 : vs 15 = .bool (shortB n1 k1 p1 p3) := hp 15 (by decide)
  clear hp
  simp only [fill, Act.put, List.append_eq, List.cons_append, List.nil_append, List.take_succ_cons, List.take_zero, List.setIfInBounds_toArray, List.set_cons_succ, List.set_cons_zero, Nat.reduceAdd, Nat.zero_add, q15] at hb
  subst hb
  refine wpList_nil ?_
  clear q15
  clear J
  have J := Lib.hid hG
  clear hG
  go_wp2
  · go_ret
    exact ⟨by rename_i hbad; rw [show goodV n0 n1 k0 k1 s0 s1 p0 p1 p2 p3 = false from by simp [goodV, hbad]]; rfl, J.out.bel⟩
  have hno1 : shortB n1 k1 p1 p3 = false := by assumption
  have S1 := Lib.hid hno1
  clear hno1
  rw [rounds_succ]
  go_wp2
  go_ret
  exact ⟨by rw [show goodV n0 n1 k0 k1 s0 s1 p0 p1 p2 p3 = true from by simp [goodV, N0.out, N1.out, S0.out, S1.out]]; rfl, J.out.bel⟩
end Go.Proofs.Ytfcimgdogkpbcaa.W
