/- inst.number, at the operations that it is asked for: what it answers, and the walk of each by itself. -/
import Derived.Test.YtihecimbhhlhaaaRsBase
namespace Go.Proofs.Ytihecimbhhlhaaa.PRs
open Go.RowKit Go.Proofs.YtihecimbhhlhaaaW.PrintWords Go.Proofs.YtihecimbhhlhaaaW.PrintLast Go.Proofs.YtihecimbhhlhaaaW.PrintMore
attribute [local go_sem] max2_int min2_int max_two min_two max_three min_three max_four min_four   -- for this text's walks alone
set_option linter.unusedVariables false
set_option linter.unusedSimpArgs false

/-! ### inst_number: function 53 -/
def inst_number.f (a0 : Int) : Option (Int × Int × Int × Int × Bool × Bool × Bool × Bool) := if a0 = 19 then some (19, 0, 0, 1, true, true, false, false) else if a0 = 20 then some (19, 2, 0, 1, true, true, false, false) else if a0 = 21 then some (19, 3, 0, 1, true, true, false, false) else if a0 = 22 then some (19, 4, 0, 1, true, true, false, false) else if a0 = 23 then some (19, 6, 0, 1, true, true, false, false) else if a0 = 24 then some (19, 7, 0, 1, true, true, false, false) else if a0 = 25 then some (19, 1, 0, 0, true, true, false, true) else if a0 = 26 then some (19, 5, 0, 0, true, true, false, true) else if a0 = 27 then some (19, 5, 32, 0, true, true, false, true) else none
set_option maxRecDepth 100000 in
set_option maxHeartbeats 1000000 in
theorem inst_number_19 (w : World) : Calls Try.prog 53 #[.int .i64 19] w fun e w' => e = .returned (.agg #[.int .u32 19, .int .u32 0, .int .u32 0, .int .i64 1, .bool true, .bool true, .bool false, .bool false]) ∧ Below w.heap.size w w' := by
  go_enter Try.func53, Try.ntmps53
  go_wp2
  refine bodyPost_ret (v := .agg #[.int .u32 19, .int .u32 0, .int .u32 0, .int .i64 1, .bool true, .bool true, .bool false, .bool false]) (by simp [results, Try.results53, go_sem] <;> rfl) rfl ⟨rfl, ?_⟩
  repeat (first | exact Below.refl _ _ | apply below_alloc | apply pw_below_drewN | apply below_drew1)
set_option maxRecDepth 100000 in
set_option maxHeartbeats 1000000 in
theorem inst_number_20 (w : World) : Calls Try.prog 53 #[.int .i64 20] w fun e w' => e = .returned (.agg #[.int .u32 19, .int .u32 2, .int .u32 0, .int .i64 1, .bool true, .bool true, .bool false, .bool false]) ∧ Below w.heap.size w w' := by
  go_enter Try.func53, Try.ntmps53
  go_wp2
  refine bodyPost_ret (v := .agg #[.int .u32 19, .int .u32 2, .int .u32 0, .int .i64 1, .bool true, .bool true, .bool false, .bool false]) (by simp [results, Try.results53, go_sem] <;> rfl) rfl ⟨rfl, ?_⟩
  repeat (first | exact Below.refl _ _ | apply below_alloc | apply pw_below_drewN | apply below_drew1)
set_option maxRecDepth 100000 in
set_option maxHeartbeats 1000000 in
theorem inst_number_21 (w : World) : Calls Try.prog 53 #[.int .i64 21] w fun e w' => e = .returned (.agg #[.int .u32 19, .int .u32 3, .int .u32 0, .int .i64 1, .bool true, .bool true, .bool false, .bool false]) ∧ Below w.heap.size w w' := by
  go_enter Try.func53, Try.ntmps53
  go_wp2
  refine bodyPost_ret (v := .agg #[.int .u32 19, .int .u32 3, .int .u32 0, .int .i64 1, .bool true, .bool true, .bool false, .bool false]) (by simp [results, Try.results53, go_sem] <;> rfl) rfl ⟨rfl, ?_⟩
  repeat (first | exact Below.refl _ _ | apply below_alloc | apply pw_below_drewN | apply below_drew1)
set_option maxRecDepth 100000 in
set_option maxHeartbeats 1000000 in
theorem inst_number_22 (w : World) : Calls Try.prog 53 #[.int .i64 22] w fun e w' => e = .returned (.agg #[.int .u32 19, .int .u32 4, .int .u32 0, .int .i64 1, .bool true, .bool true, .bool false, .bool false]) ∧ Below w.heap.size w w' := by
  go_enter Try.func53, Try.ntmps53
  go_wp2
  refine bodyPost_ret (v := .agg #[.int .u32 19, .int .u32 4, .int .u32 0, .int .i64 1, .bool true, .bool true, .bool false, .bool false]) (by simp [results, Try.results53, go_sem] <;> rfl) rfl ⟨rfl, ?_⟩
  repeat (first | exact Below.refl _ _ | apply below_alloc | apply pw_below_drewN | apply below_drew1)
set_option maxRecDepth 100000 in
set_option maxHeartbeats 1000000 in
theorem inst_number_23 (w : World) : Calls Try.prog 53 #[.int .i64 23] w fun e w' => e = .returned (.agg #[.int .u32 19, .int .u32 6, .int .u32 0, .int .i64 1, .bool true, .bool true, .bool false, .bool false]) ∧ Below w.heap.size w w' := by
  go_enter Try.func53, Try.ntmps53
  go_wp2
  refine bodyPost_ret (v := .agg #[.int .u32 19, .int .u32 6, .int .u32 0, .int .i64 1, .bool true, .bool true, .bool false, .bool false]) (by simp [results, Try.results53, go_sem] <;> rfl) rfl ⟨rfl, ?_⟩
  repeat (first | exact Below.refl _ _ | apply below_alloc | apply pw_below_drewN | apply below_drew1)
set_option maxRecDepth 100000 in
set_option maxHeartbeats 1000000 in
theorem inst_number_24 (w : World) : Calls Try.prog 53 #[.int .i64 24] w fun e w' => e = .returned (.agg #[.int .u32 19, .int .u32 7, .int .u32 0, .int .i64 1, .bool true, .bool true, .bool false, .bool false]) ∧ Below w.heap.size w w' := by
  go_enter Try.func53, Try.ntmps53
  go_wp2
  refine bodyPost_ret (v := .agg #[.int .u32 19, .int .u32 7, .int .u32 0, .int .i64 1, .bool true, .bool true, .bool false, .bool false]) (by simp [results, Try.results53, go_sem] <;> rfl) rfl ⟨rfl, ?_⟩
  repeat (first | exact Below.refl _ _ | apply below_alloc | apply pw_below_drewN | apply below_drew1)
set_option maxRecDepth 100000 in
set_option maxHeartbeats 1000000 in
theorem inst_number_25 (w : World) : Calls Try.prog 53 #[.int .i64 25] w fun e w' => e = .returned (.agg #[.int .u32 19, .int .u32 1, .int .u32 0, .int .i64 0, .bool true, .bool true, .bool false, .bool true]) ∧ Below w.heap.size w w' := by
  go_enter Try.func53, Try.ntmps53
  go_wp2
  refine bodyPost_ret (v := .agg #[.int .u32 19, .int .u32 1, .int .u32 0, .int .i64 0, .bool true, .bool true, .bool false, .bool true]) (by simp [results, Try.results53, go_sem] <;> rfl) rfl ⟨rfl, ?_⟩
  repeat (first | exact Below.refl _ _ | apply below_alloc | apply pw_below_drewN | apply below_drew1)
set_option maxRecDepth 100000 in
set_option maxHeartbeats 1000000 in
theorem inst_number_26 (w : World) : Calls Try.prog 53 #[.int .i64 26] w fun e w' => e = .returned (.agg #[.int .u32 19, .int .u32 5, .int .u32 0, .int .i64 0, .bool true, .bool true, .bool false, .bool true]) ∧ Below w.heap.size w w' := by
  go_enter Try.func53, Try.ntmps53
  go_wp2
  refine bodyPost_ret (v := .agg #[.int .u32 19, .int .u32 5, .int .u32 0, .int .i64 0, .bool true, .bool true, .bool false, .bool true]) (by simp [results, Try.results53, go_sem] <;> rfl) rfl ⟨rfl, ?_⟩
  repeat (first | exact Below.refl _ _ | apply below_alloc | apply pw_below_drewN | apply below_drew1)
set_option maxRecDepth 100000 in
set_option maxHeartbeats 1000000 in
theorem inst_number_27 (w : World) : Calls Try.prog 53 #[.int .i64 27] w fun e w' => e = .returned (.agg #[.int .u32 19, .int .u32 5, .int .u32 32, .int .i64 0, .bool true, .bool true, .bool false, .bool true]) ∧ Below w.heap.size w w' := by
  go_enter Try.func53, Try.ntmps53
  go_wp2
  refine bodyPost_ret (v := .agg #[.int .u32 19, .int .u32 5, .int .u32 32, .int .i64 0, .bool true, .bool true, .bool false, .bool true]) (by simp [results, Try.results53, go_sem] <;> rfl) rfl ⟨rfl, ?_⟩
  repeat (first | exact Below.refl _ _ | apply below_alloc | apply pw_below_drewN | apply below_drew1)
theorem inst_number.calls (a0 : Int) (r1 : Int) (r2 : Int) (r3 : Int) (r4 : Int) (r5 : Bool) (r6 : Bool) (r7 : Bool) (r8 : Bool) (w : World) (h : inst_number.f a0 = some (r1, r2, r3, r4, r5, r6, r7, r8)) :
    Calls Try.prog 53 #[.int .i64 a0] w fun e w' => e = .returned (.agg #[.int .u32 r1, .int .u32 r2, .int .u32 r3, .int .i64 r4, .bool r5, .bool r6, .bool r7, .bool r8]) ∧ Below w.heap.size w w' := by
  unfold inst_number.f at h
  by_cases c19 : a0 = 19
  · rw [if_pos c19] at h
    injection h with h
    injection h with h1 h; injection h with h2 h; injection h with h3 h; injection h with h4 h; injection h with h5 h; injection h with h6 h; injection h with h7 h8
    subst h1 h2 h3 h4 h5 h6 h7 h8 c19
    exact inst_number_19 w
  rw [if_neg c19] at h
  by_cases c20 : a0 = 20
  · rw [if_pos c20] at h
    injection h with h
    injection h with h1 h; injection h with h2 h; injection h with h3 h; injection h with h4 h; injection h with h5 h; injection h with h6 h; injection h with h7 h8
    subst h1 h2 h3 h4 h5 h6 h7 h8 c20
    exact inst_number_20 w
  rw [if_neg c20] at h
  by_cases c21 : a0 = 21
  · rw [if_pos c21] at h
    injection h with h
    injection h with h1 h; injection h with h2 h; injection h with h3 h; injection h with h4 h; injection h with h5 h; injection h with h6 h; injection h with h7 h8
    subst h1 h2 h3 h4 h5 h6 h7 h8 c21
    exact inst_number_21 w
  rw [if_neg c21] at h
  by_cases c22 : a0 = 22
  · rw [if_pos c22] at h
    injection h with h
    injection h with h1 h; injection h with h2 h; injection h with h3 h; injection h with h4 h; injection h with h5 h; injection h with h6 h; injection h with h7 h8
    subst h1 h2 h3 h4 h5 h6 h7 h8 c22
    exact inst_number_22 w
  rw [if_neg c22] at h
  by_cases c23 : a0 = 23
  · rw [if_pos c23] at h
    injection h with h
    injection h with h1 h; injection h with h2 h; injection h with h3 h; injection h with h4 h; injection h with h5 h; injection h with h6 h; injection h with h7 h8
    subst h1 h2 h3 h4 h5 h6 h7 h8 c23
    exact inst_number_23 w
  rw [if_neg c23] at h
  by_cases c24 : a0 = 24
  · rw [if_pos c24] at h
    injection h with h
    injection h with h1 h; injection h with h2 h; injection h with h3 h; injection h with h4 h; injection h with h5 h; injection h with h6 h; injection h with h7 h8
    subst h1 h2 h3 h4 h5 h6 h7 h8 c24
    exact inst_number_24 w
  rw [if_neg c24] at h
  by_cases c25 : a0 = 25
  · rw [if_pos c25] at h
    injection h with h
    injection h with h1 h; injection h with h2 h; injection h with h3 h; injection h with h4 h; injection h with h5 h; injection h with h6 h; injection h with h7 h8
    subst h1 h2 h3 h4 h5 h6 h7 h8 c25
    exact inst_number_25 w
  rw [if_neg c25] at h
  by_cases c26 : a0 = 26
  · rw [if_pos c26] at h
    injection h with h
    injection h with h1 h; injection h with h2 h; injection h with h3 h; injection h with h4 h; injection h with h5 h; injection h with h6 h; injection h with h7 h8
    subst h1 h2 h3 h4 h5 h6 h7 h8 c26
    exact inst_number_26 w
  rw [if_neg c26] at h
  by_cases c27 : a0 = 27
  · rw [if_pos c27] at h
    injection h with h
    injection h with h1 h; injection h with h2 h; injection h with h3 h; injection h with h4 h; injection h with h5 h; injection h with h6 h; injection h with h7 h8
    subst h1 h2 h3 h4 h5 h6 h7 h8 c27
    exact inst_number_27 w
  rw [if_neg c27] at h
  cases h

end Go.Proofs.Ytihecimbhhlhaaa.PRs
