/- RsInstRegs, RsInstNumber: texts put together. -/
import Derived.Test.YtihecimbhhlhaaaRsG1
import Derived.Test.YtihecimbhhlhaaaRsMc
section
namespace Go.Proofs.Ytihecimbhhlhaaa.PRs
open Go.RowKit Go.Proofs.YtihecimbhhlhaaaW.PrintWords Go.Proofs.YtihecimbhhlhaaaW.PrintLast Go.Proofs.YtihecimbhhlhaaaW.PrintMore
set_option linter.unusedVariables false
set_option linter.unusedSimpArgs false
/-! ### ireg: function 52 -/
def ireg.f (a0 : Int) : Option (Int × Int × Int × Int × Bool × Bool × Bool × Bool) := if a0 = 1 then some (51, 0, 0, 0, true, true, true, false) else if a0 = 2 then some (51, 0, 32, 0, true, true, true, false) else if a0 = 3 then some (51, 1, 0, 0, true, true, true, false) else if a0 = 4 then some (51, 2, 0, 0, true, true, true, false) else if a0 = 5 then some (51, 3, 0, 0, true, true, true, false) else if a0 = 6 then some (51, 4, 0, 0, true, true, true, false) else if a0 = 7 then some (51, 5, 0, 0, true, true, true, false) else if a0 = 8 then some (51, 5, 32, 0, true, true, true, false) else if a0 = 9 then some (51, 6, 0, 0, true, true, true, false) else if a0 = 10 then some (51, 7, 0, 0, true, true, true, false) else if a0 = 11 then some (51, 0, 1, 0, true, true, true, false) else if a0 = 12 then some (51, 1, 1, 0, true, true, true, false) else if a0 = 13 then some (51, 2, 1, 0, true, true, true, false) else if a0 = 14 then some (51, 3, 1, 0, true, true, true, false) else if a0 = 15 then some (51, 4, 1, 0, true, true, true, false) else if a0 = 16 then some (51, 5, 1, 0, true, true, true, false) else if a0 = 17 then some (51, 6, 1, 0, true, true, true, false) else if a0 = 18 then some (51, 7, 1, 0, true, true, true, false) else none
set_option maxRecDepth 100000 in
set_option maxHeartbeats 1000000 in
theorem ireg_1 (w : World) : Calls Try.prog 52 #[.int .i64 1] w fun e w' => e = .returned (.agg #[.int .u32 51, .int .u32 0, .int .u32 0, .int .i64 0, .bool true, .bool true, .bool true, .bool false]) ∧ Below w.heap.size w w' := by
 go_enter Try.func52, Try.ntmps52
 go_wp2
 refine bodyPost_ret (v := .agg #[.int .u32 51, .int .u32 0, .int .u32 0, .int .i64 0, .bool true, .bool true, .bool true, .bool false]) (m_40) rfl ⟨rfl, ?_⟩
 repeat (first | exact Below.refl _ _ | apply below_alloc | apply pw_below_drewN | apply below_drew1)
set_option maxRecDepth 100000 in
set_option maxHeartbeats 1000000 in
theorem ireg_2 (w : World) : Calls Try.prog 52 #[.int .i64 2] w fun e w' => e = .returned (.agg #[.int .u32 51, .int .u32 0, .int .u32 32, .int .i64 0, .bool true, .bool true, .bool true, .bool false]) ∧ Below w.heap.size w w' := by
 go_enter Try.func52, Try.ntmps52
 go_wp2
 refine bodyPost_ret (v := .agg #[.int .u32 51, .int .u32 0, .int .u32 32, .int .i64 0, .bool true, .bool true, .bool true, .bool false]) (m_40) rfl ⟨rfl, ?_⟩
 repeat (first | exact Below.refl _ _ | apply below_alloc | apply pw_below_drewN | apply below_drew1)
set_option maxRecDepth 100000 in
set_option maxHeartbeats 1000000 in
theorem ireg_3 (w : World) : Calls Try.prog 52 #[.int .i64 3] w fun e w' => e = .returned (.agg #[.int .u32 51, .int .u32 1, .int .u32 0, .int .i64 0, .bool true, .bool true, .bool true, .bool false]) ∧ Below w.heap.size w w' := by
 go_enter Try.func52, Try.ntmps52
 go_wp2
 refine bodyPost_ret (v := .agg #[.int .u32 51, .int .u32 1, .int .u32 0, .int .i64 0, .bool true, .bool true, .bool true, .bool false]) (m_40) rfl ⟨rfl, ?_⟩
 repeat (first | exact Below.refl _ _ | apply below_alloc | apply pw_below_drewN | apply below_drew1)
set_option maxRecDepth 100000 in
set_option maxHeartbeats 1000000 in
theorem ireg_4 (w : World) : Calls Try.prog 52 #[.int .i64 4] w fun e w' => e = .returned (.agg #[.int .u32 51, .int .u32 2, .int .u32 0, .int .i64 0, .bool true, .bool true, .bool true, .bool false]) ∧ Below w.heap.size w w' := by
 go_enter Try.func52, Try.ntmps52
 go_wp2
 refine bodyPost_ret (v := .agg #[.int .u32 51, .int .u32 2, .int .u32 0, .int .i64 0, .bool true, .bool true, .bool true, .bool false]) (m_40) rfl ⟨rfl, ?_⟩
 repeat (first | exact Below.refl _ _ | apply below_alloc | apply pw_below_drewN | apply below_drew1)
set_option maxRecDepth 100000 in
set_option maxHeartbeats 1000000 in
theorem ireg_5 (w : World) : Calls Try.prog 52 #[.int .i64 5] w fun e w' => e = .returned (.agg #[.int .u32 51, .int .u32 3, .int .u32 0, .int .i64 0, .bool true, .bool true, .bool true, .bool false]) ∧ Below w.heap.size w w' := by
 go_enter Try.func52, Try.ntmps52
 go_wp2
 refine bodyPost_ret (v := .agg #[.int .u32 51, .int .u32 3, .int .u32 0, .int .i64 0, .bool true, .bool true, .bool true, .bool false]) (m_40) rfl ⟨rfl, ?_⟩
 repeat (first | exact Below.refl _ _ | apply below_alloc | apply pw_below_drewN | apply below_drew1)
set_option maxRecDepth 100000 in
set_option maxHeartbeats 1000000 in
theorem ireg_6 (w : World) : Calls Try.prog 52 #[.int .i64 6] w fun e w' => e = .returned (.agg #[.int .u32 51, .int .u32 4, .int .u32 0, .int .i64 0, .bool true, .bool true, .bool true, .bool false]) ∧ Below w.heap.size w w' := by
 go_enter Try.func52, Try.ntmps52
 go_wp2
 refine bodyPost_ret (v := .agg #[.int .u32 51, .int .u32 4, .int .u32 0, .int .i64 0, .bool true, .bool true, .bool true, .bool false]) (m_40) rfl ⟨rfl, ?_⟩
 repeat (first | exact Below.refl _ _ | apply below_alloc | apply pw_below_drewN | apply below_drew1)
set_option maxRecDepth 100000 in
set_option maxHeartbeats 1000000 in
theorem ireg_7 (w : World) : Calls Try.prog 52 #[.int .i64 7] w fun e w' => e = .returned (.agg #[.int .u32 51, .int .u32 5, .int .u32 0, .int .i64 0, .bool true, .bool true, .bool true, .bool false]) ∧ Below w.heap.size w w' := by
 go_enter Try.func52, Try.ntmps52
 go_wp2
 refine bodyPost_ret (v := .agg #[.int .u32 51, .int .u32 5, .int .u32 0, .int .i64 0, .bool true, .bool true, .bool true, .bool false]) (m_40) rfl ⟨rfl, ?_⟩
 repeat (first | exact Below.refl _ _ | apply below_alloc | apply pw_below_drewN | apply below_drew1)
set_option maxRecDepth 100000 in
set_option maxHeartbeats 1000000 in
theorem ireg_8 (w : World) : Calls Try.prog 52 #[.int .i64 8] w fun e w' => e = .returned (.agg #[.int .u32 51, .int .u32 5, .int .u32 32, .int .i64 0, .bool true, .bool true, .bool true, .bool false]) ∧ Below w.heap.size w w' := by
 go_enter Try.func52, Try.ntmps52
 go_wp2
 refine bodyPost_ret (v := .agg #[.int .u32 51, .int .u32 5, .int .u32 32, .int .i64 0, .bool true, .bool true, .bool true, .bool false]) (m_40) rfl ⟨rfl, ?_⟩
 repeat (first | exact Below.refl _ _ | apply below_alloc | apply pw_below_drewN | apply below_drew1)
set_option maxRecDepth 100000 in
set_option maxHeartbeats 1000000 in
theorem ireg_9 (w : World) : Calls Try.prog 52 #[.int .i64 9] w fun e w' => e = .returned (.agg #[.int .u32 51, .int .u32 6, .int .u32 0, .int .i64 0, .bool true, .bool true, .bool true, .bool false]) ∧ Below w.heap.size w w' := by
 go_enter Try.func52, Try.ntmps52
 go_wp2
 refine bodyPost_ret (v := .agg #[.int .u32 51, .int .u32 6, .int .u32 0, .int .i64 0, .bool true, .bool true, .bool true, .bool false]) (m_40) rfl ⟨rfl, ?_⟩
 repeat (first | exact Below.refl _ _ | apply below_alloc | apply pw_below_drewN | apply below_drew1)
set_option maxRecDepth 100000 in
set_option maxHeartbeats 1000000 in
theorem ireg_10 (w : World) : Calls Try.prog 52 #[.int .i64 10] w fun e w' => e = .returned (.agg #[.int .u32 51, .int .u32 7, .int .u32 0, .int .i64 0, .bool true, .bool true, .bool true, .bool false]) ∧ Below w.heap.size w w' := by
 go_enter Try.func52, Try.ntmps52
 go_wp2
 refine bodyPost_ret (v := .agg #[.int .u32 51, .int .u32 7, .int .u32 0, .int .i64 0, .bool true, .bool true, .bool true, .bool false]) (m_40) rfl ⟨rfl, ?_⟩
 repeat (first | exact Below.refl _ _ | apply below_alloc | apply pw_below_drewN | apply below_drew1)
set_option maxRecDepth 100000 in
set_option maxHeartbeats 1000000 in
theorem ireg_11 (w : World) : Calls Try.prog 52 #[.int .i64 11] w fun e w' => e = .returned (.agg #[.int .u32 51, .int .u32 0, .int .u32 1, .int .i64 0, .bool true, .bool true, .bool true, .bool false]) ∧ Below w.heap.size w w' := by
 go_enter Try.func52, Try.ntmps52
 go_wp2
 refine bodyPost_ret (v := .agg #[.int .u32 51, .int .u32 0, .int .u32 1, .int .i64 0, .bool true, .bool true, .bool true, .bool false]) (m_40) rfl ⟨rfl, ?_⟩
 repeat (first | exact Below.refl _ _ | apply below_alloc | apply pw_below_drewN | apply below_drew1)
set_option maxRecDepth 100000 in
set_option maxHeartbeats 1000000 in
theorem ireg_12 (w : World) : Calls Try.prog 52 #[.int .i64 12] w fun e w' => e = .returned (.agg #[.int .u32 51, .int .u32 1, .int .u32 1, .int .i64 0, .bool true, .bool true, .bool true, .bool false]) ∧ Below w.heap.size w w' := by
 go_enter Try.func52, Try.ntmps52
 go_wp2
 refine bodyPost_ret (v := .agg #[.int .u32 51, .int .u32 1, .int .u32 1, .int .i64 0, .bool true, .bool true, .bool true, .bool false]) (m_40) rfl ⟨rfl, ?_⟩
 repeat (first | exact Below.refl _ _ | apply below_alloc | apply pw_below_drewN | apply below_drew1)
set_option maxRecDepth 100000 in
set_option maxHeartbeats 1000000 in
theorem ireg_13 (w : World) : Calls Try.prog 52 #[.int .i64 13] w fun e w' => e = .returned (.agg #[.int .u32 51, .int .u32 2, .int .u32 1, .int .i64 0, .bool true, .bool true, .bool true, .bool false]) ∧ Below w.heap.size w w' := by
 go_enter Try.func52, Try.ntmps52
 go_wp2
 refine bodyPost_ret (v := .agg #[.int .u32 51, .int .u32 2, .int .u32 1, .int .i64 0, .bool true, .bool true, .bool true, .bool false]) (m_40) rfl ⟨rfl, ?_⟩
 repeat (first | exact Below.refl _ _ | apply below_alloc | apply pw_below_drewN | apply below_drew1)
set_option maxRecDepth 100000 in
set_option maxHeartbeats 1000000 in
theorem ireg_14 (w : World) : Calls Try.prog 52 #[.int .i64 14] w fun e w' => e = .returned (.agg #[.int .u32 51, .int .u32 3, .int .u32 1, .int .i64 0, .bool true, .bool true, .bool true, .bool false]) ∧ Below w.heap.size w w' := by
 go_enter Try.func52, Try.ntmps52
 go_wp2
 refine bodyPost_ret (v := .agg #[.int .u32 51, .int .u32 3, .int .u32 1, .int .i64 0, .bool true, .bool true, .bool true, .bool false]) (m_40) rfl ⟨rfl, ?_⟩
 repeat (first | exact Below.refl _ _ | apply below_alloc | apply pw_below_drewN | apply below_drew1)
set_option maxRecDepth 100000 in
set_option maxHeartbeats 1000000 in
theorem ireg_15 (w : World) : Calls Try.prog 52 #[.int .i64 15] w fun e w' => e = .returned (.agg #[.int .u32 51, .int .u32 4, .int .u32 1, .int .i64 0, .bool true, .bool true, .bool true, .bool false]) ∧ Below w.heap.size w w' := by
 go_enter Try.func52, Try.ntmps52
 go_wp2
 refine bodyPost_ret (v := .agg #[.int .u32 51, .int .u32 4, .int .u32 1, .int .i64 0, .bool true, .bool true, .bool true, .bool false]) (m_40) rfl ⟨rfl, ?_⟩
 repeat (first | exact Below.refl _ _ | apply below_alloc | apply pw_below_drewN | apply below_drew1)
set_option maxRecDepth 100000 in
set_option maxHeartbeats 1000000 in
theorem ireg_16 (w : World) : Calls Try.prog 52 #[.int .i64 16] w fun e w' => e = .returned (.agg #[.int .u32 51, .int .u32 5, .int .u32 1, .int .i64 0, .bool true, .bool true, .bool true, .bool false]) ∧ Below w.heap.size w w' := by
 go_enter Try.func52, Try.ntmps52
 go_wp2
 refine bodyPost_ret (v := .agg #[.int .u32 51, .int .u32 5, .int .u32 1, .int .i64 0, .bool true, .bool true, .bool true, .bool false]) (m_40) rfl ⟨rfl, ?_⟩
 repeat (first | exact Below.refl _ _ | apply below_alloc | apply pw_below_drewN | apply below_drew1)
set_option maxRecDepth 100000 in
set_option maxHeartbeats 1000000 in
theorem ireg_17 (w : World) : Calls Try.prog 52 #[.int .i64 17] w fun e w' => e = .returned (.agg #[.int .u32 51, .int .u32 6, .int .u32 1, .int .i64 0, .bool true, .bool true, .bool true, .bool false]) ∧ Below w.heap.size w w' := by
 go_enter Try.func52, Try.ntmps52
 go_wp2
 refine bodyPost_ret (v := .agg #[.int .u32 51, .int .u32 6, .int .u32 1, .int .i64 0, .bool true, .bool true, .bool true, .bool false]) (m_40) rfl ⟨rfl, ?_⟩
 repeat (first | exact Below.refl _ _ | apply below_alloc | apply pw_below_drewN | apply below_drew1)
set_option maxRecDepth 100000 in
set_option maxHeartbeats 1000000 in
theorem ireg_18 (w : World) : Calls Try.prog 52 #[.int .i64 18] w fun e w' => e = .returned (.agg #[.int .u32 51, .int .u32 7, .int .u32 1, .int .i64 0, .bool true, .bool true, .bool true, .bool false]) ∧ Below w.heap.size w w' := by
 go_enter Try.func52, Try.ntmps52
 go_wp2
 refine bodyPost_ret (v := .agg #[.int .u32 51, .int .u32 7, .int .u32 1, .int .i64 0, .bool true, .bool true, .bool true, .bool false]) (m_40) rfl ⟨rfl, ?_⟩
 repeat (first | exact Below.refl _ _ | apply below_alloc | apply pw_below_drewN | apply below_drew1)
theorem ireg.calls (a0 : Int) (r1 : Int) (r2 : Int) (r3 : Int) (r4 : Int) (r5 : Bool) (r6 : Bool) (r7 : Bool) (r8 : Bool) (w : World) (h : ireg.f a0 = some (r1, r2, r3, r4, r5, r6, r7, r8)) :
 Calls Try.prog 52 #[.int .i64 a0] w fun e w' => e = .returned (.agg #[.int .u32 r1, .int .u32 r2, .int .u32 r3, .int .i64 r4, .bool r5, .bool r6, .bool r7, .bool r8]) ∧ Below w.heap.size w w' := by
 unfold ireg.f at h
 by_cases c1 : a0 = 1
 · rw [if_pos c1] at h
   injection h with h
   injection h with h1 h; injection h with h2 h; injection h with h3 h; injection h with h4 h; injection h with h5 h; injection h with h6 h; injection h with h7 h8
   subst h1 h2 h3 h4 h5 h6 h7 h8 c1
   exact ireg_1 w
 rw [if_neg c1] at h
 by_cases c2 : a0 = 2
 · rw [if_pos c2] at h
   injection h with h
   injection h with h1 h; injection h with h2 h; injection h with h3 h; injection h with h4 h; injection h with h5 h; injection h with h6 h; injection h with h7 h8
   subst h1 h2 h3 h4 h5 h6 h7 h8 c2
   exact ireg_2 w
 rw [if_neg c2] at h
 by_cases c3 : a0 = 3
 · rw [if_pos c3] at h
   injection h with h
   injection h with h1 h; injection h with h2 h; injection h with h3 h; injection h with h4 h; injection h with h5 h; injection h with h6 h; injection h with h7 h8
   subst h1 h2 h3 h4 h5 h6 h7 h8 c3
   exact ireg_3 w
 rw [if_neg c3] at h
 by_cases c4 : a0 = 4
 · rw [if_pos c4] at h
   injection h with h
   injection h with h1 h; injection h with h2 h; injection h with h3 h; injection h with h4 h; injection h with h5 h; injection h with h6 h; injection h with h7 h8
   subst h1 h2 h3 h4 h5 h6 h7 h8 c4
   exact ireg_4 w
 rw [if_neg c4] at h
 by_cases c5 : a0 = 5
 · rw [if_pos c5] at h
   injection h with h
   injection h with h1 h; injection h with h2 h; injection h with h3 h; injection h with h4 h; injection h with h5 h; injection h with h6 h; injection h with h7 h8
   subst h1 h2 h3 h4 h5 h6 h7 h8 c5
   exact ireg_5 w
 rw [if_neg c5] at h
 by_cases c6 : a0 = 6
 · rw [if_pos c6] at h
   injection h with h
   injection h with h1 h; injection h with h2 h; injection h with h3 h; injection h with h4 h; injection h with h5 h; injection h with h6 h; injection h with h7 h8
   subst h1 h2 h3 h4 h5 h6 h7 h8 c6
   exact ireg_6 w
 rw [if_neg c6] at h
 by_cases c7 : a0 = 7
 · rw [if_pos c7] at h
   injection h with h
   injection h with h1 h; injection h with h2 h; injection h with h3 h; injection h with h4 h; injection h with h5 h; injection h with h6 h; injection h with h7 h8
   subst h1 h2 h3 h4 h5 h6 h7 h8 c7
   exact ireg_7 w
 rw [if_neg c7] at h
 by_cases c8 : a0 = 8
 · rw [if_pos c8] at h
   injection h with h
   injection h with h1 h; injection h with h2 h; injection h with h3 h; injection h with h4 h; injection h with h5 h; injection h with h6 h; injection h with h7 h8
   subst h1 h2 h3 h4 h5 h6 h7 h8 c8
   exact ireg_8 w
 rw [if_neg c8] at h
 by_cases c9 : a0 = 9
 · rw [if_pos c9] at h
   injection h with h
   injection h with h1 h; injection h with h2 h; injection h with h3 h; injection h with h4 h; injection h with h5 h; injection h with h6 h; injection h with h7 h8
   subst h1 h2 h3 h4 h5 h6 h7 h8 c9
   exact ireg_9 w
 rw [if_neg c9] at h
 by_cases c10 : a0 = 10
 · rw [if_pos c10] at h
   injection h with h
   injection h with h1 h; injection h with h2 h; injection h with h3 h; injection h with h4 h; injection h with h5 h; injection h with h6 h; injection h with h7 h8
   subst h1 h2 h3 h4 h5 h6 h7 h8 c10
   exact ireg_10 w
 rw [if_neg c10] at h
 by_cases c11 : a0 = 11
 · rw [if_pos c11] at h
   injection h with h
   injection h with h1 h; injection h with h2 h; injection h with h3 h; injection h with h4 h; injection h with h5 h; injection h with h6 h; injection h with h7 h8
   subst h1 h2 h3 h4 h5 h6 h7 h8 c11
   exact ireg_11 w
 rw [if_neg c11] at h
 by_cases c12 : a0 = 12
 · rw [if_pos c12] at h
   injection h with h
   injection h with h1 h; injection h with h2 h; injection h with h3 h; injection h with h4 h; injection h with h5 h; injection h with h6 h; injection h with h7 h8
   subst h1 h2 h3 h4 h5 h6 h7 h8 c12
   exact ireg_12 w
 rw [if_neg c12] at h
 by_cases c13 : a0 = 13
 · rw [if_pos c13] at h
   injection h with h
   injection h with h1 h; injection h with h2 h; injection h with h3 h; injection h with h4 h; injection h with h5 h; injection h with h6 h; injection h with h7 h8
   subst h1 h2 h3 h4 h5 h6 h7 h8 c13
   exact ireg_13 w
 rw [if_neg c13] at h
 by_cases c14 : a0 = 14
 · rw [if_pos c14] at h
   injection h with h
   injection h with h1 h; injection h with h2 h; injection h with h3 h; injection h with h4 h; injection h with h5 h; injection h with h6 h; injection h with h7 h8
   subst h1 h2 h3 h4 h5 h6 h7 h8 c14
   exact ireg_14 w
 rw [if_neg c14] at h
 by_cases c15 : a0 = 15
 · rw [if_pos c15] at h
   injection h with h
   injection h with h1 h; injection h with h2 h; injection h with h3 h; injection h with h4 h; injection h with h5 h; injection h with h6 h; injection h with h7 h8
   subst h1 h2 h3 h4 h5 h6 h7 h8 c15
   exact ireg_15 w
 rw [if_neg c15] at h
 by_cases c16 : a0 = 16
 · rw [if_pos c16] at h
   injection h with h
   injection h with h1 h; injection h with h2 h; injection h with h3 h; injection h with h4 h; injection h with h5 h; injection h with h6 h; injection h with h7 h8
   subst h1 h2 h3 h4 h5 h6 h7 h8 c16
   exact ireg_16 w
 rw [if_neg c16] at h
 by_cases c17 : a0 = 17
 · rw [if_pos c17] at h
   injection h with h
   injection h with h1 h; injection h with h2 h; injection h with h3 h; injection h with h4 h; injection h with h5 h; injection h with h6 h; injection h with h7 h8
   subst h1 h2 h3 h4 h5 h6 h7 h8 c17
   exact ireg_17 w
 rw [if_neg c17] at h
 by_cases c18 : a0 = 18
 · rw [if_pos c18] at h
   injection h with h
   injection h with h1 h; injection h with h2 h; injection h with h3 h; injection h with h4 h; injection h with h5 h; injection h with h6 h; injection h with h7 h8
   subst h1 h2 h3 h4 h5 h6 h7 h8 c18
   exact ireg_18 w
 rw [if_neg c18] at h
 cases h
end Go.Proofs.Ytihecimbhhlhaaa.PRs
end
section
namespace Go.Proofs.Ytihecimbhhlhaaa.PRs
open Go.RowKit Go.Proofs.YtihecimbhhlhaaaW.PrintWords Go.Proofs.YtihecimbhhlhaaaW.PrintLast Go.Proofs.YtihecimbhhlhaaaW.PrintMore
set_option linter.unusedVariables false
set_option linter.unusedSimpArgs false
/-! ### inum: function 53 -/
def inum.f (a0 : Int) : Option (Int × Int × Int × Int × Bool × Bool × Bool × Bool) := if a0 = 19 then some (19, 0, 0, 1, true, true, false, false) else if a0 = 20 then some (19, 2, 0, 1, true, true, false, false) else if a0 = 21 then some (19, 3, 0, 1, true, true, false, false) else if a0 = 22 then some (19, 4, 0, 1, true, true, false, false) else if a0 = 23 then some (19, 6, 0, 1, true, true, false, false) else if a0 = 24 then some (19, 7, 0, 1, true, true, false, false) else if a0 = 25 then some (19, 1, 0, 0, true, true, false, true) else if a0 = 26 then some (19, 5, 0, 0, true, true, false, true) else if a0 = 27 then some (19, 5, 32, 0, true, true, false, true) else none
set_option maxRecDepth 100000 in
set_option maxHeartbeats 1000000 in
theorem inum_19 (w : World) : Calls Try.prog 53 #[.int .i64 19] w fun e w' => e = .returned (.agg #[.int .u32 19, .int .u32 0, .int .u32 0, .int .i64 1, .bool true, .bool true, .bool false, .bool false]) ∧ Below w.heap.size w w' := by
 go_enter Try.func53, Try.ntmps53
 go_wp2
 refine bodyPost_ret (v := .agg #[.int .u32 19, .int .u32 0, .int .u32 0, .int .i64 1, .bool true, .bool true, .bool false, .bool false]) (m_58) rfl ⟨rfl, ?_⟩
 repeat (first | exact Below.refl _ _ | apply below_alloc | apply pw_below_drewN | apply below_drew1)
set_option maxRecDepth 100000 in
set_option maxHeartbeats 1000000 in
theorem inum_20 (w : World) : Calls Try.prog 53 #[.int .i64 20] w fun e w' => e = .returned (.agg #[.int .u32 19, .int .u32 2, .int .u32 0, .int .i64 1, .bool true, .bool true, .bool false, .bool false]) ∧ Below w.heap.size w w' := by
 go_enter Try.func53, Try.ntmps53
 go_wp2
 refine bodyPost_ret (v := .agg #[.int .u32 19, .int .u32 2, .int .u32 0, .int .i64 1, .bool true, .bool true, .bool false, .bool false]) (m_58) rfl ⟨rfl, ?_⟩
 repeat (first | exact Below.refl _ _ | apply below_alloc | apply pw_below_drewN | apply below_drew1)
set_option maxRecDepth 100000 in
set_option maxHeartbeats 1000000 in
theorem inum_21 (w : World) : Calls Try.prog 53 #[.int .i64 21] w fun e w' => e = .returned (.agg #[.int .u32 19, .int .u32 3, .int .u32 0, .int .i64 1, .bool true, .bool true, .bool false, .bool false]) ∧ Below w.heap.size w w' := by
 go_enter Try.func53, Try.ntmps53
 go_wp2
 refine bodyPost_ret (v := .agg #[.int .u32 19, .int .u32 3, .int .u32 0, .int .i64 1, .bool true, .bool true, .bool false, .bool false]) (m_58) rfl ⟨rfl, ?_⟩
 repeat (first | exact Below.refl _ _ | apply below_alloc | apply pw_below_drewN | apply below_drew1)
set_option maxRecDepth 100000 in
set_option maxHeartbeats 1000000 in
theorem inum_22 (w : World) : Calls Try.prog 53 #[.int .i64 22] w fun e w' => e = .returned (.agg #[.int .u32 19, .int .u32 4, .int .u32 0, .int .i64 1, .bool true, .bool true, .bool false, .bool false]) ∧ Below w.heap.size w w' := by
 go_enter Try.func53, Try.ntmps53
 go_wp2
 refine bodyPost_ret (v := .agg #[.int .u32 19, .int .u32 4, .int .u32 0, .int .i64 1, .bool true, .bool true, .bool false, .bool false]) (m_58) rfl ⟨rfl, ?_⟩
 repeat (first | exact Below.refl _ _ | apply below_alloc | apply pw_below_drewN | apply below_drew1)
set_option maxRecDepth 100000 in
set_option maxHeartbeats 1000000 in
theorem inum_23 (w : World) : Calls Try.prog 53 #[.int .i64 23] w fun e w' => e = .returned (.agg #[.int .u32 19, .int .u32 6, .int .u32 0, .int .i64 1, .bool true, .bool true, .bool false, .bool false]) ∧ Below w.heap.size w w' := by
 go_enter Try.func53, Try.ntmps53
 go_wp2
 refine bodyPost_ret (v := .agg #[.int .u32 19, .int .u32 6, .int .u32 0, .int .i64 1, .bool true, .bool true, .bool false, .bool false]) (m_58) rfl ⟨rfl, ?_⟩
 repeat (first | exact Below.refl _ _ | apply below_alloc | apply pw_below_drewN | apply below_drew1)
set_option maxRecDepth 100000 in
set_option maxHeartbeats 1000000 in
theorem inum_24 (w : World) : Calls Try.prog 53 #[.int .i64 24] w fun e w' => e = .returned (.agg #[.int .u32 19, .int .u32 7, .int .u32 0, .int .i64 1, .bool true, .bool true, .bool false, .bool false]) ∧ Below w.heap.size w w' := by
 go_enter Try.func53, Try.ntmps53
 go_wp2
 refine bodyPost_ret (v := .agg #[.int .u32 19, .int .u32 7, .int .u32 0, .int .i64 1, .bool true, .bool true, .bool false, .bool false]) (m_58) rfl ⟨rfl, ?_⟩
 repeat (first | exact Below.refl _ _ | apply below_alloc | apply pw_below_drewN | apply below_drew1)
set_option maxRecDepth 100000 in
set_option maxHeartbeats 1000000 in
theorem inum_25 (w : World) : Calls Try.prog 53 #[.int .i64 25] w fun e w' => e = .returned (.agg #[.int .u32 19, .int .u32 1, .int .u32 0, .int .i64 0, .bool true, .bool true, .bool false, .bool true]) ∧ Below w.heap.size w w' := by
 go_enter Try.func53, Try.ntmps53
 go_wp2
 refine bodyPost_ret (v := .agg #[.int .u32 19, .int .u32 1, .int .u32 0, .int .i64 0, .bool true, .bool true, .bool false, .bool true]) (m_58) rfl ⟨rfl, ?_⟩
 repeat (first | exact Below.refl _ _ | apply below_alloc | apply pw_below_drewN | apply below_drew1)
set_option maxRecDepth 100000 in
set_option maxHeartbeats 1000000 in
theorem inum_26 (w : World) : Calls Try.prog 53 #[.int .i64 26] w fun e w' => e = .returned (.agg #[.int .u32 19, .int .u32 5, .int .u32 0, .int .i64 0, .bool true, .bool true, .bool false, .bool true]) ∧ Below w.heap.size w w' := by
 go_enter Try.func53, Try.ntmps53
 go_wp2
 refine bodyPost_ret (v := .agg #[.int .u32 19, .int .u32 5, .int .u32 0, .int .i64 0, .bool true, .bool true, .bool false, .bool true]) (m_58) rfl ⟨rfl, ?_⟩
 repeat (first | exact Below.refl _ _ | apply below_alloc | apply pw_below_drewN | apply below_drew1)
set_option maxRecDepth 100000 in
set_option maxHeartbeats 1000000 in
theorem inum_27 (w : World) : Calls Try.prog 53 #[.int .i64 27] w fun e w' => e = .returned (.agg #[.int .u32 19, .int .u32 5, .int .u32 32, .int .i64 0, .bool true, .bool true, .bool false, .bool true]) ∧ Below w.heap.size w w' := by
 go_enter Try.func53, Try.ntmps53
 go_wp2
 refine bodyPost_ret (v := .agg #[.int .u32 19, .int .u32 5, .int .u32 32, .int .i64 0, .bool true, .bool true, .bool false, .bool true]) (m_58) rfl ⟨rfl, ?_⟩
 repeat (first | exact Below.refl _ _ | apply below_alloc | apply pw_below_drewN | apply below_drew1)
theorem inum.calls (a0 : Int) (r1 : Int) (r2 : Int) (r3 : Int) (r4 : Int) (r5 : Bool) (r6 : Bool) (r7 : Bool) (r8 : Bool) (w : World) (h : inum.f a0 = some (r1, r2, r3, r4, r5, r6, r7, r8)) :
 Calls Try.prog 53 #[.int .i64 a0] w fun e w' => e = .returned (.agg #[.int .u32 r1, .int .u32 r2, .int .u32 r3, .int .i64 r4, .bool r5, .bool r6, .bool r7, .bool r8]) ∧ Below w.heap.size w w' := by
 unfold inum.f at h
 by_cases c19 : a0 = 19
 · rw [if_pos c19] at h
   injection h with h
   injection h with h1 h; injection h with h2 h; injection h with h3 h; injection h with h4 h; injection h with h5 h; injection h with h6 h; injection h with h7 h8
   subst h1 h2 h3 h4 h5 h6 h7 h8 c19
   exact inum_19 w
 rw [if_neg c19] at h
 by_cases c20 : a0 = 20
 · rw [if_pos c20] at h
   injection h with h
   injection h with h1 h; injection h with h2 h; injection h with h3 h; injection h with h4 h; injection h with h5 h; injection h with h6 h; injection h with h7 h8
   subst h1 h2 h3 h4 h5 h6 h7 h8 c20
   exact inum_20 w
 rw [if_neg c20] at h
 by_cases c21 : a0 = 21
 · rw [if_pos c21] at h
   injection h with h
   injection h with h1 h; injection h with h2 h; injection h with h3 h; injection h with h4 h; injection h with h5 h; injection h with h6 h; injection h with h7 h8
   subst h1 h2 h3 h4 h5 h6 h7 h8 c21
   exact inum_21 w
 rw [if_neg c21] at h
 by_cases c22 : a0 = 22
 · rw [if_pos c22] at h
   injection h with h
   injection h with h1 h; injection h with h2 h; injection h with h3 h; injection h with h4 h; injection h with h5 h; injection h with h6 h; injection h with h7 h8
   subst h1 h2 h3 h4 h5 h6 h7 h8 c22
   exact inum_22 w
 rw [if_neg c22] at h
 by_cases c23 : a0 = 23
 · rw [if_pos c23] at h
   injection h with h
   injection h with h1 h; injection h with h2 h; injection h with h3 h; injection h with h4 h; injection h with h5 h; injection h with h6 h; injection h with h7 h8
   subst h1 h2 h3 h4 h5 h6 h7 h8 c23
   exact inum_23 w
 rw [if_neg c23] at h
 by_cases c24 : a0 = 24
 · rw [if_pos c24] at h
   injection h with h
   injection h with h1 h; injection h with h2 h; injection h with h3 h; injection h with h4 h; injection h with h5 h; injection h with h6 h; injection h with h7 h8
   subst h1 h2 h3 h4 h5 h6 h7 h8 c24
   exact inum_24 w
 rw [if_neg c24] at h
 by_cases c25 : a0 = 25
 · rw [if_pos c25] at h
   injection h with h
   injection h with h1 h; injection h with h2 h; injection h with h3 h; injection h with h4 h; injection h with h5 h; injection h with h6 h; injection h with h7 h8
   subst h1 h2 h3 h4 h5 h6 h7 h8 c25
   exact inum_25 w
 rw [if_neg c25] at h
 by_cases c26 : a0 = 26
 · rw [if_pos c26] at h
   injection h with h
   injection h with h1 h; injection h with h2 h; injection h with h3 h; injection h with h4 h; injection h with h5 h; injection h with h6 h; injection h with h7 h8
   subst h1 h2 h3 h4 h5 h6 h7 h8 c26
   exact inum_26 w
 rw [if_neg c26] at h
 by_cases c27 : a0 = 27
 · rw [if_pos c27] at h
   injection h with h
   injection h with h1 h; injection h with h2 h; injection h with h3 h; injection h with h4 h; injection h with h5 h; injection h with h6 h; injection h with h7 h8
   subst h1 h2 h3 h4 h5 h6 h7 h8 c27
   exact inum_27 w
 rw [if_neg c27] at h
 cases h
end Go.Proofs.Ytihecimbhhlhaaa.PRs
end
