/- The document's table of operations (Of): a plain function with the same answers, and the walk of each operation by itself. -/
import Derived.Test.YtmjiimajbaeicaaInBase
namespace Go.Proofs.Ytmjiimajbaeicaa.PInst
open Go.RowKit Go.Proofs.YtmjiimajbaeicaaW.PrintWords Go.Proofs.YtmjiimajbaeicaaW.PrintLast Go.Proofs.YtmjiimajbaeicaaW.PrintMore
attribute [local go_sem] max2_int min2_int max_two min_two max_three min_three max_four min_four   -- for this text's walks alone
set_option linter.unusedVariables false
set_option linter.unusedSimpArgs false

/-! ### pintleref03_Of: function 15 -/
def pintleref03_Of.j0 : Nat → Int → Bool → Option (Int × Int × Int × Int × Bool × Bool × Bool × Bool)
  | 0, _, _ => none
  | k + 1, x0, x17 => if x17 = true then (some (0, 0, 0, 0, false, false, false, false)) else (if x0 ≤ 18 then ((some (([0, 0, 1, 2, 3, 4, 5, 5, 6, 7, 0, 1, 2, 3, 4, 5, 6, 7] : List Int) : List Int)).bind fun y211 => (if x0 > 10 then (if x0 = 2 then (if 0 ≤ (wrap64 (x0 - 1)) then (if (wrap64 (x0 - 1)) < (y211.length : Int) then (some (51, rd y211 (wrap64 (x0 - 1)), 32, 0, true, true, true, true)) else (none)) else (none)) else (if x0 = 8 then (if 0 ≤ (wrap64 (x0 - 1)) then (if (wrap64 (x0 - 1)) < (y211.length : Int) then (some (51, rd y211 (wrap64 (x0 - 1)), 32, 0, true, true, true, true)) else (none)) else (none)) else (if 0 ≤ (wrap64 (x0 - 1)) then (if (wrap64 (x0 - 1)) < (y211.length : Int) then (some (51, rd y211 (wrap64 (x0 - 1)), 1, 0, true, true, true, true)) else (none)) else (none)))) else (if x0 = 2 then (if 0 ≤ (wrap64 (x0 - 1)) then (if (wrap64 (x0 - 1)) < (y211.length : Int) then (some (51, rd y211 (wrap64 (x0 - 1)), 32, 0, true, true, true, true)) else (none)) else (none)) else (if x0 = 8 then (if 0 ≤ (wrap64 (x0 - 1)) then (if (wrap64 (x0 - 1)) < (y211.length : Int) then (some (51, rd y211 (wrap64 (x0 - 1)), 32, 0, true, true, true, true)) else (none)) else (none)) else (if 0 ≤ (wrap64 (x0 - 1)) then (if (wrap64 (x0 - 1)) < (y211.length : Int) then (some (51, rd y211 (wrap64 (x0 - 1)), 0, 0, true, true, true, true)) else (none)) else (none)))))) else (if x0 ≤ 27 then ((some (([0, 2, 3, 4, 6, 7, 1, 5, 5] : List Int) : List Int)).bind fun y220 => (if x0 ≥ 25 then (if x0 = 27 then (if 0 ≤ (wrap64 (x0 - 19)) then (if (wrap64 (x0 - 19)) < (y220.length : Int) then (some (19, rd y220 (wrap64 (x0 - 19)), 32, 6, true, true, false, true)) else (none)) else (none)) else (if 0 ≤ (wrap64 (x0 - 19)) then (if (wrap64 (x0 - 19)) < (y220.length : Int) then (some (19, rd y220 (wrap64 (x0 - 19)), 0, 6, true, true, false, true)) else (none)) else (none))) else (if x0 = 27 then (if 0 ≤ (wrap64 (x0 - 19)) then (if (wrap64 (x0 - 19)) < (y220.length : Int) then (some (19, rd y220 (wrap64 (x0 - 19)), 32, 1, true, true, false, true)) else (none)) else (none)) else (if 0 ≤ (wrap64 (x0 - 19)) then (if (wrap64 (x0 - 19)) < (y220.length : Int) then (some (19, rd y220 (wrap64 (x0 - 19)), 0, 1, true, true, false, true)) else (none)) else (none))))) else (if x0 ≤ 32 then ((some (([0, 1, 2, 4, 5] : List Int) : List Int)).bind fun y227 => (if 0 ≤ (wrap64 (x0 - 28)) then (if (wrap64 (x0 - 28)) < (y227.length : Int) then (some (3, rd y227 (wrap64 (x0 - 28)), 0, 1, true, true, false, true)) else (none)) else (none))) else (if x0 ≤ 35 then (some (35, (wrap64 (x0 - 33)) % 4294967296, 0, 2, false, true, true, true)) else (if x0 ≤ 41 then ((some (([0, 1, 4, 5, 6, 7] : List Int) : List Int)).bind fun y231 => (if 0 ≤ (wrap64 (x0 - 36)) then (if (wrap64 (x0 - 36)) < (y231.length : Int) then (some (99, rd y231 (wrap64 (x0 - 36)), 0, 3, false, true, true, true)) else (none)) else (none))) else ((some (([(⟨55, 0, 0, 4, true, false, false⟩ : S34), (⟨23, 0, 0, 4, true, false, false⟩ : S34), (⟨111, 0, 0, 5, true, false, false⟩ : S34), (⟨103, 0, 0, 1, true, true, false⟩ : S34), (⟨15, 0, 0, 1, false, false, false⟩ : S34)] : List (S34)) : List (S34))).bind fun y235 => (if 0 ≤ (wrap64 (x0 - 42)) then (if (wrap64 (x0 - 42)) < (y235.length : Int) then (some ((rd_T34 y235 (wrap64 (x0 - 42))).f0, (rd_T34 y235 (wrap64 (x0 - 42))).f1, (rd_T34 y235 (wrap64 (x0 - 42))).f2, (rd_T34 y235 (wrap64 (x0 - 42))).f3, (rd_T34 y235 (wrap64 (x0 - 42))).f4, (rd_T34 y235 (wrap64 (x0 - 42))).f5, (rd_T34 y235 (wrap64 (x0 - 42))).f6, true)) else (none)) else (none))))))))
def pintleref03_Of.f (k : Nat) (a0 : Int) : Option (Int × Int × Int × Int × Bool × Bool × Bool × Bool) := if a0 < 1 then (pintleref03_Of.j0 k a0 true) else (pintleref03_Of.j0 k a0 (decide (a0 > 46)))
theorem pintleref03_Of.mono_l : ∀ k, (∀ y0 y1, LeO (pintleref03_Of.j0 k y0 y1) (pintleref03_Of.j0 (k + 1) y0 y1))
  | 0 => fun _ _ r h => by simp [pintleref03_Of.j0] at h
  | k + 1 => by
    have ih0 := pintleref03_Of.mono_l k
    · intro y0 y1
      unfold pintleref03_Of.j0
      repeat' first
      | (with_reducible exact ih0 _ _)
      | (with_reducible exact LeO.refl _)
      | (with_reducible exact LeO.none _)
      | (with_reducible refine LeO.ite ?_ ?_)
      | (with_reducible refine LeO.bind ?_ (fun _ => ?_))
      | exact ih0 _ _
      | exact LeO.none _
      | refine LeO.ite ?_ ?_
      | refine LeO.bind ?_ (fun _ => ?_)
theorem pintleref03_Of.mono : ∀ a0 k, LeO (pintleref03_Of.f k a0) (pintleref03_Of.f (k + 1) a0) := by
  intro a0 k
  have ih0 := pintleref03_Of.mono_l k
  unfold pintleref03_Of.f
  repeat' first
      | (with_reducible exact ih0 _ _)
      | (with_reducible exact LeO.refl _)
      | (with_reducible exact LeO.none _)
      | (with_reducible refine LeO.ite ?_ ?_)
      | (with_reducible refine LeO.bind ?_ (fun _ => ?_))
      | exact ih0 _ _
      | exact LeO.none _
      | refine LeO.ite ?_ ?_
      | refine LeO.bind ?_ (fun _ => ?_)
set_option maxRecDepth 100000 in
set_option maxHeartbeats 1000000 in
theorem rof_1 (w : World) : Calls Try.prog 15 #[.int .i64 1] w fun e w' => e = .returned (.tuple #[.agg #[.int .u32 51, .int .u32 0, .int .u32 0, .int .i64 0, .bool true, .bool true, .bool true], .bool true]) ∧ Below w.heap.size w w' := by
  go_enter Try.func15, Try.ntmps15
  go_wp2
  refine bodyPost_ret (v := .tuple #[.agg #[.int .u32 51, .int .u32 0, .int .u32 0, .int .i64 0, .bool true, .bool true, .bool true], .bool true]) (by simp [results, Try.results15, go_sem] <;> rfl) rfl ⟨rfl, ?_⟩
  repeat (first | exact Below.refl _ _ | apply below_alloc | apply pw_below_drewN | apply below_drew1)
set_option maxRecDepth 100000 in
set_option maxHeartbeats 1000000 in
theorem rof_2 (w : World) : Calls Try.prog 15 #[.int .i64 2] w fun e w' => e = .returned (.tuple #[.agg #[.int .u32 51, .int .u32 0, .int .u32 32, .int .i64 0, .bool true, .bool true, .bool true], .bool true]) ∧ Below w.heap.size w w' := by
  go_enter Try.func15, Try.ntmps15
  go_wp2
  refine bodyPost_ret (v := .tuple #[.agg #[.int .u32 51, .int .u32 0, .int .u32 32, .int .i64 0, .bool true, .bool true, .bool true], .bool true]) (by simp [results, Try.results15, go_sem] <;> rfl) rfl ⟨rfl, ?_⟩
  repeat (first | exact Below.refl _ _ | apply below_alloc | apply pw_below_drewN | apply below_drew1)
set_option maxRecDepth 100000 in
set_option maxHeartbeats 1000000 in
theorem rof_3 (w : World) : Calls Try.prog 15 #[.int .i64 3] w fun e w' => e = .returned (.tuple #[.agg #[.int .u32 51, .int .u32 1, .int .u32 0, .int .i64 0, .bool true, .bool true, .bool true], .bool true]) ∧ Below w.heap.size w w' := by
  go_enter Try.func15, Try.ntmps15
  go_wp2
  refine bodyPost_ret (v := .tuple #[.agg #[.int .u32 51, .int .u32 1, .int .u32 0, .int .i64 0, .bool true, .bool true, .bool true], .bool true]) (by simp [results, Try.results15, go_sem] <;> rfl) rfl ⟨rfl, ?_⟩
  repeat (first | exact Below.refl _ _ | apply below_alloc | apply pw_below_drewN | apply below_drew1)
set_option maxRecDepth 100000 in
set_option maxHeartbeats 1000000 in
theorem rof_4 (w : World) : Calls Try.prog 15 #[.int .i64 4] w fun e w' => e = .returned (.tuple #[.agg #[.int .u32 51, .int .u32 2, .int .u32 0, .int .i64 0, .bool true, .bool true, .bool true], .bool true]) ∧ Below w.heap.size w w' := by
  go_enter Try.func15, Try.ntmps15
  go_wp2
  refine bodyPost_ret (v := .tuple #[.agg #[.int .u32 51, .int .u32 2, .int .u32 0, .int .i64 0, .bool true, .bool true, .bool true], .bool true]) (by simp [results, Try.results15, go_sem] <;> rfl) rfl ⟨rfl, ?_⟩
  repeat (first | exact Below.refl _ _ | apply below_alloc | apply pw_below_drewN | apply below_drew1)
set_option maxRecDepth 100000 in
set_option maxHeartbeats 1000000 in
theorem rof_5 (w : World) : Calls Try.prog 15 #[.int .i64 5] w fun e w' => e = .returned (.tuple #[.agg #[.int .u32 51, .int .u32 3, .int .u32 0, .int .i64 0, .bool true, .bool true, .bool true], .bool true]) ∧ Below w.heap.size w w' := by
  go_enter Try.func15, Try.ntmps15
  go_wp2
  refine bodyPost_ret (v := .tuple #[.agg #[.int .u32 51, .int .u32 3, .int .u32 0, .int .i64 0, .bool true, .bool true, .bool true], .bool true]) (by simp [results, Try.results15, go_sem] <;> rfl) rfl ⟨rfl, ?_⟩
  repeat (first | exact Below.refl _ _ | apply below_alloc | apply pw_below_drewN | apply below_drew1)
set_option maxRecDepth 100000 in
set_option maxHeartbeats 1000000 in
theorem rof_6 (w : World) : Calls Try.prog 15 #[.int .i64 6] w fun e w' => e = .returned (.tuple #[.agg #[.int .u32 51, .int .u32 4, .int .u32 0, .int .i64 0, .bool true, .bool true, .bool true], .bool true]) ∧ Below w.heap.size w w' := by
  go_enter Try.func15, Try.ntmps15
  go_wp2
  refine bodyPost_ret (v := .tuple #[.agg #[.int .u32 51, .int .u32 4, .int .u32 0, .int .i64 0, .bool true, .bool true, .bool true], .bool true]) (by simp [results, Try.results15, go_sem] <;> rfl) rfl ⟨rfl, ?_⟩
  repeat (first | exact Below.refl _ _ | apply below_alloc | apply pw_below_drewN | apply below_drew1)
set_option maxRecDepth 100000 in
set_option maxHeartbeats 1000000 in
theorem rof_7 (w : World) : Calls Try.prog 15 #[.int .i64 7] w fun e w' => e = .returned (.tuple #[.agg #[.int .u32 51, .int .u32 5, .int .u32 0, .int .i64 0, .bool true, .bool true, .bool true], .bool true]) ∧ Below w.heap.size w w' := by
  go_enter Try.func15, Try.ntmps15
  go_wp2
  refine bodyPost_ret (v := .tuple #[.agg #[.int .u32 51, .int .u32 5, .int .u32 0, .int .i64 0, .bool true, .bool true, .bool true], .bool true]) (by simp [results, Try.results15, go_sem] <;> rfl) rfl ⟨rfl, ?_⟩
  repeat (first | exact Below.refl _ _ | apply below_alloc | apply pw_below_drewN | apply below_drew1)
set_option maxRecDepth 100000 in
set_option maxHeartbeats 1000000 in
theorem rof_8 (w : World) : Calls Try.prog 15 #[.int .i64 8] w fun e w' => e = .returned (.tuple #[.agg #[.int .u32 51, .int .u32 5, .int .u32 32, .int .i64 0, .bool true, .bool true, .bool true], .bool true]) ∧ Below w.heap.size w w' := by
  go_enter Try.func15, Try.ntmps15
  go_wp2
  refine bodyPost_ret (v := .tuple #[.agg #[.int .u32 51, .int .u32 5, .int .u32 32, .int .i64 0, .bool true, .bool true, .bool true], .bool true]) (by simp [results, Try.results15, go_sem] <;> rfl) rfl ⟨rfl, ?_⟩
  repeat (first | exact Below.refl _ _ | apply below_alloc | apply pw_below_drewN | apply below_drew1)
set_option maxRecDepth 100000 in
set_option maxHeartbeats 1000000 in
theorem rof_9 (w : World) : Calls Try.prog 15 #[.int .i64 9] w fun e w' => e = .returned (.tuple #[.agg #[.int .u32 51, .int .u32 6, .int .u32 0, .int .i64 0, .bool true, .bool true, .bool true], .bool true]) ∧ Below w.heap.size w w' := by
  go_enter Try.func15, Try.ntmps15
  go_wp2
  refine bodyPost_ret (v := .tuple #[.agg #[.int .u32 51, .int .u32 6, .int .u32 0, .int .i64 0, .bool true, .bool true, .bool true], .bool true]) (by simp [results, Try.results15, go_sem] <;> rfl) rfl ⟨rfl, ?_⟩
  repeat (first | exact Below.refl _ _ | apply below_alloc | apply pw_below_drewN | apply below_drew1)
set_option maxRecDepth 100000 in
set_option maxHeartbeats 1000000 in
theorem rof_10 (w : World) : Calls Try.prog 15 #[.int .i64 10] w fun e w' => e = .returned (.tuple #[.agg #[.int .u32 51, .int .u32 7, .int .u32 0, .int .i64 0, .bool true, .bool true, .bool true], .bool true]) ∧ Below w.heap.size w w' := by
  go_enter Try.func15, Try.ntmps15
  go_wp2
  refine bodyPost_ret (v := .tuple #[.agg #[.int .u32 51, .int .u32 7, .int .u32 0, .int .i64 0, .bool true, .bool true, .bool true], .bool true]) (by simp [results, Try.results15, go_sem] <;> rfl) rfl ⟨rfl, ?_⟩
  repeat (first | exact Below.refl _ _ | apply below_alloc | apply pw_below_drewN | apply below_drew1)
set_option maxRecDepth 100000 in
set_option maxHeartbeats 1000000 in
theorem rof_11 (w : World) : Calls Try.prog 15 #[.int .i64 11] w fun e w' => e = .returned (.tuple #[.agg #[.int .u32 51, .int .u32 0, .int .u32 1, .int .i64 0, .bool true, .bool true, .bool true], .bool true]) ∧ Below w.heap.size w w' := by
  go_enter Try.func15, Try.ntmps15
  go_wp2
  refine bodyPost_ret (v := .tuple #[.agg #[.int .u32 51, .int .u32 0, .int .u32 1, .int .i64 0, .bool true, .bool true, .bool true], .bool true]) (by simp [results, Try.results15, go_sem] <;> rfl) rfl ⟨rfl, ?_⟩
  repeat (first | exact Below.refl _ _ | apply below_alloc | apply pw_below_drewN | apply below_drew1)
set_option maxRecDepth 100000 in
set_option maxHeartbeats 1000000 in
theorem rof_12 (w : World) : Calls Try.prog 15 #[.int .i64 12] w fun e w' => e = .returned (.tuple #[.agg #[.int .u32 51, .int .u32 1, .int .u32 1, .int .i64 0, .bool true, .bool true, .bool true], .bool true]) ∧ Below w.heap.size w w' := by
  go_enter Try.func15, Try.ntmps15
  go_wp2
  refine bodyPost_ret (v := .tuple #[.agg #[.int .u32 51, .int .u32 1, .int .u32 1, .int .i64 0, .bool true, .bool true, .bool true], .bool true]) (by simp [results, Try.results15, go_sem] <;> rfl) rfl ⟨rfl, ?_⟩
  repeat (first | exact Below.refl _ _ | apply below_alloc | apply pw_below_drewN | apply below_drew1)
set_option maxRecDepth 100000 in
set_option maxHeartbeats 1000000 in
theorem rof_13 (w : World) : Calls Try.prog 15 #[.int .i64 13] w fun e w' => e = .returned (.tuple #[.agg #[.int .u32 51, .int .u32 2, .int .u32 1, .int .i64 0, .bool true, .bool true, .bool true], .bool true]) ∧ Below w.heap.size w w' := by
  go_enter Try.func15, Try.ntmps15
  go_wp2
  refine bodyPost_ret (v := .tuple #[.agg #[.int .u32 51, .int .u32 2, .int .u32 1, .int .i64 0, .bool true, .bool true, .bool true], .bool true]) (by simp [results, Try.results15, go_sem] <;> rfl) rfl ⟨rfl, ?_⟩
  repeat (first | exact Below.refl _ _ | apply below_alloc | apply pw_below_drewN | apply below_drew1)
set_option maxRecDepth 100000 in
set_option maxHeartbeats 1000000 in
theorem rof_14 (w : World) : Calls Try.prog 15 #[.int .i64 14] w fun e w' => e = .returned (.tuple #[.agg #[.int .u32 51, .int .u32 3, .int .u32 1, .int .i64 0, .bool true, .bool true, .bool true], .bool true]) ∧ Below w.heap.size w w' := by
  go_enter Try.func15, Try.ntmps15
  go_wp2
  refine bodyPost_ret (v := .tuple #[.agg #[.int .u32 51, .int .u32 3, .int .u32 1, .int .i64 0, .bool true, .bool true, .bool true], .bool true]) (by simp [results, Try.results15, go_sem] <;> rfl) rfl ⟨rfl, ?_⟩
  repeat (first | exact Below.refl _ _ | apply below_alloc | apply pw_below_drewN | apply below_drew1)
set_option maxRecDepth 100000 in
set_option maxHeartbeats 1000000 in
theorem rof_15 (w : World) : Calls Try.prog 15 #[.int .i64 15] w fun e w' => e = .returned (.tuple #[.agg #[.int .u32 51, .int .u32 4, .int .u32 1, .int .i64 0, .bool true, .bool true, .bool true], .bool true]) ∧ Below w.heap.size w w' := by
  go_enter Try.func15, Try.ntmps15
  go_wp2
  refine bodyPost_ret (v := .tuple #[.agg #[.int .u32 51, .int .u32 4, .int .u32 1, .int .i64 0, .bool true, .bool true, .bool true], .bool true]) (by simp [results, Try.results15, go_sem] <;> rfl) rfl ⟨rfl, ?_⟩
  repeat (first | exact Below.refl _ _ | apply below_alloc | apply pw_below_drewN | apply below_drew1)
set_option maxRecDepth 100000 in
set_option maxHeartbeats 1000000 in
theorem rof_16 (w : World) : Calls Try.prog 15 #[.int .i64 16] w fun e w' => e = .returned (.tuple #[.agg #[.int .u32 51, .int .u32 5, .int .u32 1, .int .i64 0, .bool true, .bool true, .bool true], .bool true]) ∧ Below w.heap.size w w' := by
  go_enter Try.func15, Try.ntmps15
  go_wp2
  refine bodyPost_ret (v := .tuple #[.agg #[.int .u32 51, .int .u32 5, .int .u32 1, .int .i64 0, .bool true, .bool true, .bool true], .bool true]) (by simp [results, Try.results15, go_sem] <;> rfl) rfl ⟨rfl, ?_⟩
  repeat (first | exact Below.refl _ _ | apply below_alloc | apply pw_below_drewN | apply below_drew1)
set_option maxRecDepth 100000 in
set_option maxHeartbeats 1000000 in
theorem rof_17 (w : World) : Calls Try.prog 15 #[.int .i64 17] w fun e w' => e = .returned (.tuple #[.agg #[.int .u32 51, .int .u32 6, .int .u32 1, .int .i64 0, .bool true, .bool true, .bool true], .bool true]) ∧ Below w.heap.size w w' := by
  go_enter Try.func15, Try.ntmps15
  go_wp2
  refine bodyPost_ret (v := .tuple #[.agg #[.int .u32 51, .int .u32 6, .int .u32 1, .int .i64 0, .bool true, .bool true, .bool true], .bool true]) (by simp [results, Try.results15, go_sem] <;> rfl) rfl ⟨rfl, ?_⟩
  repeat (first | exact Below.refl _ _ | apply below_alloc | apply pw_below_drewN | apply below_drew1)
set_option maxRecDepth 100000 in
set_option maxHeartbeats 1000000 in
theorem rof_18 (w : World) : Calls Try.prog 15 #[.int .i64 18] w fun e w' => e = .returned (.tuple #[.agg #[.int .u32 51, .int .u32 7, .int .u32 1, .int .i64 0, .bool true, .bool true, .bool true], .bool true]) ∧ Below w.heap.size w w' := by
  go_enter Try.func15, Try.ntmps15
  go_wp2
  refine bodyPost_ret (v := .tuple #[.agg #[.int .u32 51, .int .u32 7, .int .u32 1, .int .i64 0, .bool true, .bool true, .bool true], .bool true]) (by simp [results, Try.results15, go_sem] <;> rfl) rfl ⟨rfl, ?_⟩
  repeat (first | exact Below.refl _ _ | apply below_alloc | apply pw_below_drewN | apply below_drew1)
set_option maxRecDepth 100000 in
set_option maxHeartbeats 1000000 in
theorem rof_19 (w : World) : Calls Try.prog 15 #[.int .i64 19] w fun e w' => e = .returned (.tuple #[.agg #[.int .u32 19, .int .u32 0, .int .u32 0, .int .i64 1, .bool true, .bool true, .bool false], .bool true]) ∧ Below w.heap.size w w' := by
  go_enter Try.func15, Try.ntmps15
  go_wp2
  refine bodyPost_ret (v := .tuple #[.agg #[.int .u32 19, .int .u32 0, .int .u32 0, .int .i64 1, .bool true, .bool true, .bool false], .bool true]) (by simp [results, Try.results15, go_sem] <;> rfl) rfl ⟨rfl, ?_⟩
  repeat (first | exact Below.refl _ _ | apply below_alloc | apply pw_below_drewN | apply below_drew1)
set_option maxRecDepth 100000 in
set_option maxHeartbeats 1000000 in
theorem rof_20 (w : World) : Calls Try.prog 15 #[.int .i64 20] w fun e w' => e = .returned (.tuple #[.agg #[.int .u32 19, .int .u32 2, .int .u32 0, .int .i64 1, .bool true, .bool true, .bool false], .bool true]) ∧ Below w.heap.size w w' := by
  go_enter Try.func15, Try.ntmps15
  go_wp2
  refine bodyPost_ret (v := .tuple #[.agg #[.int .u32 19, .int .u32 2, .int .u32 0, .int .i64 1, .bool true, .bool true, .bool false], .bool true]) (by simp [results, Try.results15, go_sem] <;> rfl) rfl ⟨rfl, ?_⟩
  repeat (first | exact Below.refl _ _ | apply below_alloc | apply pw_below_drewN | apply below_drew1)
set_option maxRecDepth 100000 in
set_option maxHeartbeats 1000000 in
theorem rof_21 (w : World) : Calls Try.prog 15 #[.int .i64 21] w fun e w' => e = .returned (.tuple #[.agg #[.int .u32 19, .int .u32 3, .int .u32 0, .int .i64 1, .bool true, .bool true, .bool false], .bool true]) ∧ Below w.heap.size w w' := by
  go_enter Try.func15, Try.ntmps15
  go_wp2
  refine bodyPost_ret (v := .tuple #[.agg #[.int .u32 19, .int .u32 3, .int .u32 0, .int .i64 1, .bool true, .bool true, .bool false], .bool true]) (by simp [results, Try.results15, go_sem] <;> rfl) rfl ⟨rfl, ?_⟩
  repeat (first | exact Below.refl _ _ | apply below_alloc | apply pw_below_drewN | apply below_drew1)
set_option maxRecDepth 100000 in
set_option maxHeartbeats 1000000 in
theorem rof_22 (w : World) : Calls Try.prog 15 #[.int .i64 22] w fun e w' => e = .returned (.tuple #[.agg #[.int .u32 19, .int .u32 4, .int .u32 0, .int .i64 1, .bool true, .bool true, .bool false], .bool true]) ∧ Below w.heap.size w w' := by
  go_enter Try.func15, Try.ntmps15
  go_wp2
  refine bodyPost_ret (v := .tuple #[.agg #[.int .u32 19, .int .u32 4, .int .u32 0, .int .i64 1, .bool true, .bool true, .bool false], .bool true]) (by simp [results, Try.results15, go_sem] <;> rfl) rfl ⟨rfl, ?_⟩
  repeat (first | exact Below.refl _ _ | apply below_alloc | apply pw_below_drewN | apply below_drew1)
set_option maxRecDepth 100000 in
set_option maxHeartbeats 1000000 in
theorem rof_23 (w : World) : Calls Try.prog 15 #[.int .i64 23] w fun e w' => e = .returned (.tuple #[.agg #[.int .u32 19, .int .u32 6, .int .u32 0, .int .i64 1, .bool true, .bool true, .bool false], .bool true]) ∧ Below w.heap.size w w' := by
  go_enter Try.func15, Try.ntmps15
  go_wp2
  refine bodyPost_ret (v := .tuple #[.agg #[.int .u32 19, .int .u32 6, .int .u32 0, .int .i64 1, .bool true, .bool true, .bool false], .bool true]) (by simp [results, Try.results15, go_sem] <;> rfl) rfl ⟨rfl, ?_⟩
  repeat (first | exact Below.refl _ _ | apply below_alloc | apply pw_below_drewN | apply below_drew1)
set_option maxRecDepth 100000 in
set_option maxHeartbeats 1000000 in
theorem rof_24 (w : World) : Calls Try.prog 15 #[.int .i64 24] w fun e w' => e = .returned (.tuple #[.agg #[.int .u32 19, .int .u32 7, .int .u32 0, .int .i64 1, .bool true, .bool true, .bool false], .bool true]) ∧ Below w.heap.size w w' := by
  go_enter Try.func15, Try.ntmps15
  go_wp2
  refine bodyPost_ret (v := .tuple #[.agg #[.int .u32 19, .int .u32 7, .int .u32 0, .int .i64 1, .bool true, .bool true, .bool false], .bool true]) (by simp [results, Try.results15, go_sem] <;> rfl) rfl ⟨rfl, ?_⟩
  repeat (first | exact Below.refl _ _ | apply below_alloc | apply pw_below_drewN | apply below_drew1)
set_option maxRecDepth 100000 in
set_option maxHeartbeats 1000000 in
theorem rof_25 (w : World) : Calls Try.prog 15 #[.int .i64 25] w fun e w' => e = .returned (.tuple #[.agg #[.int .u32 19, .int .u32 1, .int .u32 0, .int .i64 6, .bool true, .bool true, .bool false], .bool true]) ∧ Below w.heap.size w w' := by
  go_enter Try.func15, Try.ntmps15
  go_wp2
  refine bodyPost_ret (v := .tuple #[.agg #[.int .u32 19, .int .u32 1, .int .u32 0, .int .i64 6, .bool true, .bool true, .bool false], .bool true]) (by simp [results, Try.results15, go_sem] <;> rfl) rfl ⟨rfl, ?_⟩
  repeat (first | exact Below.refl _ _ | apply below_alloc | apply pw_below_drewN | apply below_drew1)
set_option maxRecDepth 100000 in
set_option maxHeartbeats 1000000 in
theorem rof_26 (w : World) : Calls Try.prog 15 #[.int .i64 26] w fun e w' => e = .returned (.tuple #[.agg #[.int .u32 19, .int .u32 5, .int .u32 0, .int .i64 6, .bool true, .bool true, .bool false], .bool true]) ∧ Below w.heap.size w w' := by
  go_enter Try.func15, Try.ntmps15
  go_wp2
  refine bodyPost_ret (v := .tuple #[.agg #[.int .u32 19, .int .u32 5, .int .u32 0, .int .i64 6, .bool true, .bool true, .bool false], .bool true]) (by simp [results, Try.results15, go_sem] <;> rfl) rfl ⟨rfl, ?_⟩
  repeat (first | exact Below.refl _ _ | apply below_alloc | apply pw_below_drewN | apply below_drew1)
set_option maxRecDepth 100000 in
set_option maxHeartbeats 1000000 in
theorem rof_27 (w : World) : Calls Try.prog 15 #[.int .i64 27] w fun e w' => e = .returned (.tuple #[.agg #[.int .u32 19, .int .u32 5, .int .u32 32, .int .i64 6, .bool true, .bool true, .bool false], .bool true]) ∧ Below w.heap.size w w' := by
  go_enter Try.func15, Try.ntmps15
  go_wp2
  refine bodyPost_ret (v := .tuple #[.agg #[.int .u32 19, .int .u32 5, .int .u32 32, .int .i64 6, .bool true, .bool true, .bool false], .bool true]) (by simp [results, Try.results15, go_sem] <;> rfl) rfl ⟨rfl, ?_⟩
  repeat (first | exact Below.refl _ _ | apply below_alloc | apply pw_below_drewN | apply below_drew1)
set_option maxRecDepth 100000 in
set_option maxHeartbeats 1000000 in
theorem rof_28 (w : World) : Calls Try.prog 15 #[.int .i64 28] w fun e w' => e = .returned (.tuple #[.agg #[.int .u32 3, .int .u32 0, .int .u32 0, .int .i64 1, .bool true, .bool true, .bool false], .bool true]) ∧ Below w.heap.size w w' := by
  go_enter Try.func15, Try.ntmps15
  go_wp2
  refine bodyPost_ret (v := .tuple #[.agg #[.int .u32 3, .int .u32 0, .int .u32 0, .int .i64 1, .bool true, .bool true, .bool false], .bool true]) (by simp [results, Try.results15, go_sem] <;> rfl) rfl ⟨rfl, ?_⟩
  repeat (first | exact Below.refl _ _ | apply below_alloc | apply pw_below_drewN | apply below_drew1)
set_option maxRecDepth 100000 in
set_option maxHeartbeats 1000000 in
theorem rof_29 (w : World) : Calls Try.prog 15 #[.int .i64 29] w fun e w' => e = .returned (.tuple #[.agg #[.int .u32 3, .int .u32 1, .int .u32 0, .int .i64 1, .bool true, .bool true, .bool false], .bool true]) ∧ Below w.heap.size w w' := by
  go_enter Try.func15, Try.ntmps15
  go_wp2
  refine bodyPost_ret (v := .tuple #[.agg #[.int .u32 3, .int .u32 1, .int .u32 0, .int .i64 1, .bool true, .bool true, .bool false], .bool true]) (by simp [results, Try.results15, go_sem] <;> rfl) rfl ⟨rfl, ?_⟩
  repeat (first | exact Below.refl _ _ | apply below_alloc | apply pw_below_drewN | apply below_drew1)
set_option maxRecDepth 100000 in
set_option maxHeartbeats 1000000 in
theorem rof_30 (w : World) : Calls Try.prog 15 #[.int .i64 30] w fun e w' => e = .returned (.tuple #[.agg #[.int .u32 3, .int .u32 2, .int .u32 0, .int .i64 1, .bool true, .bool true, .bool false], .bool true]) ∧ Below w.heap.size w w' := by
  go_enter Try.func15, Try.ntmps15
  go_wp2
  refine bodyPost_ret (v := .tuple #[.agg #[.int .u32 3, .int .u32 2, .int .u32 0, .int .i64 1, .bool true, .bool true, .bool false], .bool true]) (by simp [results, Try.results15, go_sem] <;> rfl) rfl ⟨rfl, ?_⟩
  repeat (first | exact Below.refl _ _ | apply below_alloc | apply pw_below_drewN | apply below_drew1)
set_option maxRecDepth 100000 in
set_option maxHeartbeats 1000000 in
theorem rof_31 (w : World) : Calls Try.prog 15 #[.int .i64 31] w fun e w' => e = .returned (.tuple #[.agg #[.int .u32 3, .int .u32 4, .int .u32 0, .int .i64 1, .bool true, .bool true, .bool false], .bool true]) ∧ Below w.heap.size w w' := by
  go_enter Try.func15, Try.ntmps15
  go_wp2
  refine bodyPost_ret (v := .tuple #[.agg #[.int .u32 3, .int .u32 4, .int .u32 0, .int .i64 1, .bool true, .bool true, .bool false], .bool true]) (by simp [results, Try.results15, go_sem] <;> rfl) rfl ⟨rfl, ?_⟩
  repeat (first | exact Below.refl _ _ | apply below_alloc | apply pw_below_drewN | apply below_drew1)
set_option maxRecDepth 100000 in
set_option maxHeartbeats 1000000 in
theorem rof_32 (w : World) : Calls Try.prog 15 #[.int .i64 32] w fun e w' => e = .returned (.tuple #[.agg #[.int .u32 3, .int .u32 5, .int .u32 0, .int .i64 1, .bool true, .bool true, .bool false], .bool true]) ∧ Below w.heap.size w w' := by
  go_enter Try.func15, Try.ntmps15
  go_wp2
  refine bodyPost_ret (v := .tuple #[.agg #[.int .u32 3, .int .u32 5, .int .u32 0, .int .i64 1, .bool true, .bool true, .bool false], .bool true]) (by simp [results, Try.results15, go_sem] <;> rfl) rfl ⟨rfl, ?_⟩
  repeat (first | exact Below.refl _ _ | apply below_alloc | apply pw_below_drewN | apply below_drew1)
set_option maxRecDepth 100000 in
set_option maxHeartbeats 1000000 in
theorem rof_33 (w : World) : Calls Try.prog 15 #[.int .i64 33] w fun e w' => e = .returned (.tuple #[.agg #[.int .u32 35, .int .u32 0, .int .u32 0, .int .i64 2, .bool false, .bool true, .bool true], .bool true]) ∧ Below w.heap.size w w' := by
  go_enter Try.func15, Try.ntmps15
  go_wp2
  refine bodyPost_ret (v := .tuple #[.agg #[.int .u32 35, .int .u32 0, .int .u32 0, .int .i64 2, .bool false, .bool true, .bool true], .bool true]) (by simp [results, Try.results15, go_sem] <;> rfl) rfl ⟨rfl, ?_⟩
  repeat (first | exact Below.refl _ _ | apply below_alloc | apply pw_below_drewN | apply below_drew1)
set_option maxRecDepth 100000 in
set_option maxHeartbeats 1000000 in
theorem rof_34 (w : World) : Calls Try.prog 15 #[.int .i64 34] w fun e w' => e = .returned (.tuple #[.agg #[.int .u32 35, .int .u32 1, .int .u32 0, .int .i64 2, .bool false, .bool true, .bool true], .bool true]) ∧ Below w.heap.size w w' := by
  go_enter Try.func15, Try.ntmps15
  go_wp2
  refine bodyPost_ret (v := .tuple #[.agg #[.int .u32 35, .int .u32 1, .int .u32 0, .int .i64 2, .bool false, .bool true, .bool true], .bool true]) (by simp [results, Try.results15, go_sem] <;> rfl) rfl ⟨rfl, ?_⟩
  repeat (first | exact Below.refl _ _ | apply below_alloc | apply pw_below_drewN | apply below_drew1)
set_option maxRecDepth 100000 in
set_option maxHeartbeats 1000000 in
theorem rof_35 (w : World) : Calls Try.prog 15 #[.int .i64 35] w fun e w' => e = .returned (.tuple #[.agg #[.int .u32 35, .int .u32 2, .int .u32 0, .int .i64 2, .bool false, .bool true, .bool true], .bool true]) ∧ Below w.heap.size w w' := by
  go_enter Try.func15, Try.ntmps15
  go_wp2
  refine bodyPost_ret (v := .tuple #[.agg #[.int .u32 35, .int .u32 2, .int .u32 0, .int .i64 2, .bool false, .bool true, .bool true], .bool true]) (by simp [results, Try.results15, go_sem] <;> rfl) rfl ⟨rfl, ?_⟩
  repeat (first | exact Below.refl _ _ | apply below_alloc | apply pw_below_drewN | apply below_drew1)
set_option maxRecDepth 100000 in
set_option maxHeartbeats 1000000 in
theorem rof_36 (w : World) : Calls Try.prog 15 #[.int .i64 36] w fun e w' => e = .returned (.tuple #[.agg #[.int .u32 99, .int .u32 0, .int .u32 0, .int .i64 3, .bool false, .bool true, .bool true], .bool true]) ∧ Below w.heap.size w w' := by
  go_enter Try.func15, Try.ntmps15
  go_wp2
  refine bodyPost_ret (v := .tuple #[.agg #[.int .u32 99, .int .u32 0, .int .u32 0, .int .i64 3, .bool false, .bool true, .bool true], .bool true]) (by simp [results, Try.results15, go_sem] <;> rfl) rfl ⟨rfl, ?_⟩
  repeat (first | exact Below.refl _ _ | apply below_alloc | apply pw_below_drewN | apply below_drew1)
set_option maxRecDepth 100000 in
set_option maxHeartbeats 1000000 in
theorem rof_37 (w : World) : Calls Try.prog 15 #[.int .i64 37] w fun e w' => e = .returned (.tuple #[.agg #[.int .u32 99, .int .u32 1, .int .u32 0, .int .i64 3, .bool false, .bool true, .bool true], .bool true]) ∧ Below w.heap.size w w' := by
  go_enter Try.func15, Try.ntmps15
  go_wp2
  refine bodyPost_ret (v := .tuple #[.agg #[.int .u32 99, .int .u32 1, .int .u32 0, .int .i64 3, .bool false, .bool true, .bool true], .bool true]) (by simp [results, Try.results15, go_sem] <;> rfl) rfl ⟨rfl, ?_⟩
  repeat (first | exact Below.refl _ _ | apply below_alloc | apply pw_below_drewN | apply below_drew1)
set_option maxRecDepth 100000 in
set_option maxHeartbeats 1000000 in
theorem rof_38 (w : World) : Calls Try.prog 15 #[.int .i64 38] w fun e w' => e = .returned (.tuple #[.agg #[.int .u32 99, .int .u32 4, .int .u32 0, .int .i64 3, .bool false, .bool true, .bool true], .bool true]) ∧ Below w.heap.size w w' := by
  go_enter Try.func15, Try.ntmps15
  go_wp2
  refine bodyPost_ret (v := .tuple #[.agg #[.int .u32 99, .int .u32 4, .int .u32 0, .int .i64 3, .bool false, .bool true, .bool true], .bool true]) (by simp [results, Try.results15, go_sem] <;> rfl) rfl ⟨rfl, ?_⟩
  repeat (first | exact Below.refl _ _ | apply below_alloc | apply pw_below_drewN | apply below_drew1)
set_option maxRecDepth 100000 in
set_option maxHeartbeats 1000000 in
theorem rof_39 (w : World) : Calls Try.prog 15 #[.int .i64 39] w fun e w' => e = .returned (.tuple #[.agg #[.int .u32 99, .int .u32 5, .int .u32 0, .int .i64 3, .bool false, .bool true, .bool true], .bool true]) ∧ Below w.heap.size w w' := by
  go_enter Try.func15, Try.ntmps15
  go_wp2
  refine bodyPost_ret (v := .tuple #[.agg #[.int .u32 99, .int .u32 5, .int .u32 0, .int .i64 3, .bool false, .bool true, .bool true], .bool true]) (by simp [results, Try.results15, go_sem] <;> rfl) rfl ⟨rfl, ?_⟩
  repeat (first | exact Below.refl _ _ | apply below_alloc | apply pw_below_drewN | apply below_drew1)
set_option maxRecDepth 100000 in
set_option maxHeartbeats 1000000 in
theorem rof_40 (w : World) : Calls Try.prog 15 #[.int .i64 40] w fun e w' => e = .returned (.tuple #[.agg #[.int .u32 99, .int .u32 6, .int .u32 0, .int .i64 3, .bool false, .bool true, .bool true], .bool true]) ∧ Below w.heap.size w w' := by
  go_enter Try.func15, Try.ntmps15
  go_wp2
  refine bodyPost_ret (v := .tuple #[.agg #[.int .u32 99, .int .u32 6, .int .u32 0, .int .i64 3, .bool false, .bool true, .bool true], .bool true]) (by simp [results, Try.results15, go_sem] <;> rfl) rfl ⟨rfl, ?_⟩
  repeat (first | exact Below.refl _ _ | apply below_alloc | apply pw_below_drewN | apply below_drew1)
set_option maxRecDepth 100000 in
set_option maxHeartbeats 1000000 in
theorem rof_41 (w : World) : Calls Try.prog 15 #[.int .i64 41] w fun e w' => e = .returned (.tuple #[.agg #[.int .u32 99, .int .u32 7, .int .u32 0, .int .i64 3, .bool false, .bool true, .bool true], .bool true]) ∧ Below w.heap.size w w' := by
  go_enter Try.func15, Try.ntmps15
  go_wp2
  refine bodyPost_ret (v := .tuple #[.agg #[.int .u32 99, .int .u32 7, .int .u32 0, .int .i64 3, .bool false, .bool true, .bool true], .bool true]) (by simp [results, Try.results15, go_sem] <;> rfl) rfl ⟨rfl, ?_⟩
  repeat (first | exact Below.refl _ _ | apply below_alloc | apply pw_below_drewN | apply below_drew1)
set_option maxRecDepth 100000 in
set_option maxHeartbeats 1000000 in
theorem rof_42 (w : World) : Calls Try.prog 15 #[.int .i64 42] w fun e w' => e = .returned (.tuple #[.agg #[.int .u32 55, .int .u32 0, .int .u32 0, .int .i64 4, .bool true, .bool false, .bool false], .bool true]) ∧ Below w.heap.size w w' := by
  go_enter Try.func15, Try.ntmps15
  go_wp2
  refine bodyPost_ret (v := .tuple #[.agg #[.int .u32 55, .int .u32 0, .int .u32 0, .int .i64 4, .bool true, .bool false, .bool false], .bool true]) (by simp [results, Try.results15, go_sem] <;> rfl) rfl ⟨rfl, ?_⟩
  repeat (first | exact Below.refl _ _ | apply below_alloc | apply pw_below_drewN | apply below_drew1)
set_option maxRecDepth 100000 in
set_option maxHeartbeats 1000000 in
theorem rof_43 (w : World) : Calls Try.prog 15 #[.int .i64 43] w fun e w' => e = .returned (.tuple #[.agg #[.int .u32 23, .int .u32 0, .int .u32 0, .int .i64 4, .bool true, .bool false, .bool false], .bool true]) ∧ Below w.heap.size w w' := by
  go_enter Try.func15, Try.ntmps15
  go_wp2
  refine bodyPost_ret (v := .tuple #[.agg #[.int .u32 23, .int .u32 0, .int .u32 0, .int .i64 4, .bool true, .bool false, .bool false], .bool true]) (by simp [results, Try.results15, go_sem] <;> rfl) rfl ⟨rfl, ?_⟩
  repeat (first | exact Below.refl _ _ | apply below_alloc | apply pw_below_drewN | apply below_drew1)
set_option maxRecDepth 100000 in
set_option maxHeartbeats 1000000 in
theorem rof_44 (w : World) : Calls Try.prog 15 #[.int .i64 44] w fun e w' => e = .returned (.tuple #[.agg #[.int .u32 111, .int .u32 0, .int .u32 0, .int .i64 5, .bool true, .bool false, .bool false], .bool true]) ∧ Below w.heap.size w w' := by
  go_enter Try.func15, Try.ntmps15
  go_wp2
  refine bodyPost_ret (v := .tuple #[.agg #[.int .u32 111, .int .u32 0, .int .u32 0, .int .i64 5, .bool true, .bool false, .bool false], .bool true]) (by simp [results, Try.results15, go_sem] <;> rfl) rfl ⟨rfl, ?_⟩
  repeat (first | exact Below.refl _ _ | apply below_alloc | apply pw_below_drewN | apply below_drew1)
set_option maxRecDepth 100000 in
set_option maxHeartbeats 1000000 in
theorem rof_45 (w : World) : Calls Try.prog 15 #[.int .i64 45] w fun e w' => e = .returned (.tuple #[.agg #[.int .u32 103, .int .u32 0, .int .u32 0, .int .i64 1, .bool true, .bool true, .bool false], .bool true]) ∧ Below w.heap.size w w' := by
  go_enter Try.func15, Try.ntmps15
  go_wp2
  refine bodyPost_ret (v := .tuple #[.agg #[.int .u32 103, .int .u32 0, .int .u32 0, .int .i64 1, .bool true, .bool true, .bool false], .bool true]) (by simp [results, Try.results15, go_sem] <;> rfl) rfl ⟨rfl, ?_⟩
  repeat (first | exact Below.refl _ _ | apply below_alloc | apply pw_below_drewN | apply below_drew1)
set_option maxRecDepth 100000 in
set_option maxHeartbeats 1000000 in
theorem rof_46 (w : World) : Calls Try.prog 15 #[.int .i64 46] w fun e w' => e = .returned (.tuple #[.agg #[.int .u32 15, .int .u32 0, .int .u32 0, .int .i64 1, .bool false, .bool false, .bool false], .bool true]) ∧ Below w.heap.size w w' := by
  go_enter Try.func15, Try.ntmps15
  go_wp2
  refine bodyPost_ret (v := .tuple #[.agg #[.int .u32 15, .int .u32 0, .int .u32 0, .int .i64 1, .bool false, .bool false, .bool false], .bool true]) (by simp [results, Try.results15, go_sem] <;> rfl) rfl ⟨rfl, ?_⟩
  repeat (first | exact Below.refl _ _ | apply below_alloc | apply pw_below_drewN | apply below_drew1)
set_option maxRecDepth 100000 in
set_option maxHeartbeats 1000000 in
theorem rof_less (a0 : Int) (w : World) (h : a0 < 1) : Calls Try.prog 15 #[.int .i64 a0] w fun e w' => e = .returned (.tuple #[.agg #[.int .u32 0, .int .u32 0, .int .u32 0, .int .i64 0, .bool false, .bool false, .bool false], .bool false]) ∧ Below w.heap.size w w' := by
  have h1 : decide (a0 < 1) = true := decide_eq_true h
  go_enter Try.func15, Try.ntmps15
  go_wp2
  refine bodyPost_ret (v := .tuple #[.agg #[.int .u32 0, .int .u32 0, .int .u32 0, .int .i64 0, .bool false, .bool false, .bool false], .bool false]) (by simp [results, Try.results15, go_sem] <;> rfl) rfl ⟨rfl, ?_⟩
  repeat (first | exact Below.refl _ _ | apply below_alloc | apply pw_below_drewN | apply below_drew1)
set_option maxRecDepth 100000 in
set_option maxHeartbeats 1000000 in
theorem rof_more (a0 : Int) (w : World) (h : 46 < a0) : Calls Try.prog 15 #[.int .i64 a0] w fun e w' => e = .returned (.tuple #[.agg #[.int .u32 0, .int .u32 0, .int .u32 0, .int .i64 0, .bool false, .bool false, .bool false], .bool false]) ∧ Below w.heap.size w w' := by
  have h1 : decide (a0 < 1) = false := decide_eq_false (by omega)
  have h2 : decide (46 < a0) = true := decide_eq_true h
  go_enter Try.func15, Try.ntmps15
  go_wp2
  refine bodyPost_ret (v := .tuple #[.agg #[.int .u32 0, .int .u32 0, .int .u32 0, .int .i64 0, .bool false, .bool false, .bool false], .bool false]) (by simp [results, Try.results15, go_sem] <;> rfl) rfl ⟨rfl, ?_⟩
  repeat (first | exact Below.refl _ _ | apply below_alloc | apply pw_below_drewN | apply below_drew1)
theorem rof_same {k : Nat} {a0 : Int} {x y : Int × Int × Int × Int × Bool × Bool × Bool × Bool} (h : pintleref03_Of.f k a0 = some x) (e : pintleref03_Of.f 2 a0 = some y) : x = y := by
  have h2 := at_rounds (g := fun k => pintleref03_Of.f k a0) (fun k => pintleref03_Of.mono a0 k) (Nat.le_max_left k 2) h
  have e2 := at_rounds (g := fun k => pintleref03_Of.f k a0) (fun k => pintleref03_Of.mono a0 k) (Nat.le_max_right k 2) e
  exact Option.some.inj (h2.symm.trans e2)
theorem pintleref03_Of.calls (k : Nat) (a0 : Int) (r1 : Int) (r2 : Int) (r3 : Int) (r4 : Int) (r5 : Bool) (r6 : Bool) (r7 : Bool) (r8 : Bool) (w : World) (h : pintleref03_Of.f k a0 = some (r1, r2, r3, r4, r5, r6, r7, r8)) :
    Calls Try.prog 15 #[.int .i64 a0] w fun e w' => e = .returned (.tuple #[.agg #[.int .u32 r1, .int .u32 r2, .int .u32 r3, .int .i64 r4, .bool r5, .bool r6, .bool r7], .bool r8]) ∧ Below w.heap.size w w' := by
  by_cases c : a0 < 1
  · have e : pintleref03_Of.f 2 a0 = some (0, 0, 0, 0, false, false, false, false) := by
      unfold pintleref03_Of.f
      rw [if_pos c]; simp only [pintleref03_Of.j0]; rw [if_pos trivial]
    replace h := rof_same h e
    injection h with h1 h; injection h with h2 h; injection h with h3 h; injection h with h4 h; injection h with h5 h; injection h with h6 h; injection h with h7 h8
    subst h1 h2 h3 h4 h5 h6 h7 h8
    exact rof_less a0 w c
  by_cases d : 46 < a0
  · have e : pintleref03_Of.f 2 a0 = some (0, 0, 0, 0, false, false, false, false) := by
      unfold pintleref03_Of.f
      rw [if_neg c, decide_eq_true (show a0 > 46 from d)]; simp only [pintleref03_Of.j0]; rw [if_pos trivial]
    replace h := rof_same h e
    injection h with h1 h; injection h with h2 h; injection h with h3 h; injection h with h4 h; injection h with h5 h; injection h with h6 h; injection h with h7 h8
    subst h1 h2 h3 h4 h5 h6 h7 h8
    exact rof_more a0 w d
  by_cases c1 : a0 = 1
  · subst c1
    replace h := rof_same h (show pintleref03_Of.f 2 1 = some (51, 0, 0, 0, true, true, true, true) from by kernel_rfl)
    injection h with h1 h; injection h with h2 h; injection h with h3 h; injection h with h4 h; injection h with h5 h; injection h with h6 h; injection h with h7 h8
    subst h1 h2 h3 h4 h5 h6 h7 h8
    exact rof_1 w
  by_cases c2 : a0 = 2
  · subst c2
    replace h := rof_same h (show pintleref03_Of.f 2 2 = some (51, 0, 32, 0, true, true, true, true) from by kernel_rfl)
    injection h with h1 h; injection h with h2 h; injection h with h3 h; injection h with h4 h; injection h with h5 h; injection h with h6 h; injection h with h7 h8
    subst h1 h2 h3 h4 h5 h6 h7 h8
    exact rof_2 w
  by_cases c3 : a0 = 3
  · subst c3
    replace h := rof_same h (show pintleref03_Of.f 2 3 = some (51, 1, 0, 0, true, true, true, true) from by kernel_rfl)
    injection h with h1 h; injection h with h2 h; injection h with h3 h; injection h with h4 h; injection h with h5 h; injection h with h6 h; injection h with h7 h8
    subst h1 h2 h3 h4 h5 h6 h7 h8
    exact rof_3 w
  by_cases c4 : a0 = 4
  · subst c4
    replace h := rof_same h (show pintleref03_Of.f 2 4 = some (51, 2, 0, 0, true, true, true, true) from by kernel_rfl)
    injection h with h1 h; injection h with h2 h; injection h with h3 h; injection h with h4 h; injection h with h5 h; injection h with h6 h; injection h with h7 h8
    subst h1 h2 h3 h4 h5 h6 h7 h8
    exact rof_4 w
  by_cases c5 : a0 = 5
  · subst c5
    replace h := rof_same h (show pintleref03_Of.f 2 5 = some (51, 3, 0, 0, true, true, true, true) from by kernel_rfl)
    injection h with h1 h; injection h with h2 h; injection h with h3 h; injection h with h4 h; injection h with h5 h; injection h with h6 h; injection h with h7 h8
    subst h1 h2 h3 h4 h5 h6 h7 h8
    exact rof_5 w
  by_cases c6 : a0 = 6
  · subst c6
    replace h := rof_same h (show pintleref03_Of.f 2 6 = some (51, 4, 0, 0, true, true, true, true) from by kernel_rfl)
    injection h with h1 h; injection h with h2 h; injection h with h3 h; injection h with h4 h; injection h with h5 h; injection h with h6 h; injection h with h7 h8
    subst h1 h2 h3 h4 h5 h6 h7 h8
    exact rof_6 w
  by_cases c7 : a0 = 7
  · subst c7
    replace h := rof_same h (show pintleref03_Of.f 2 7 = some (51, 5, 0, 0, true, true, true, true) from by kernel_rfl)
    injection h with h1 h; injection h with h2 h; injection h with h3 h; injection h with h4 h; injection h with h5 h; injection h with h6 h; injection h with h7 h8
    subst h1 h2 h3 h4 h5 h6 h7 h8
    exact rof_7 w
  by_cases c8 : a0 = 8
  · subst c8
    replace h := rof_same h (show pintleref03_Of.f 2 8 = some (51, 5, 32, 0, true, true, true, true) from by kernel_rfl)
    injection h with h1 h; injection h with h2 h; injection h with h3 h; injection h with h4 h; injection h with h5 h; injection h with h6 h; injection h with h7 h8
    subst h1 h2 h3 h4 h5 h6 h7 h8
    exact rof_8 w
  by_cases c9 : a0 = 9
  · subst c9
    replace h := rof_same h (show pintleref03_Of.f 2 9 = some (51, 6, 0, 0, true, true, true, true) from by kernel_rfl)
    injection h with h1 h; injection h with h2 h; injection h with h3 h; injection h with h4 h; injection h with h5 h; injection h with h6 h; injection h with h7 h8
    subst h1 h2 h3 h4 h5 h6 h7 h8
    exact rof_9 w
  by_cases c10 : a0 = 10
  · subst c10
    replace h := rof_same h (show pintleref03_Of.f 2 10 = some (51, 7, 0, 0, true, true, true, true) from by kernel_rfl)
    injection h with h1 h; injection h with h2 h; injection h with h3 h; injection h with h4 h; injection h with h5 h; injection h with h6 h; injection h with h7 h8
    subst h1 h2 h3 h4 h5 h6 h7 h8
    exact rof_10 w
  by_cases c11 : a0 = 11
  · subst c11
    replace h := rof_same h (show pintleref03_Of.f 2 11 = some (51, 0, 1, 0, true, true, true, true) from by kernel_rfl)
    injection h with h1 h; injection h with h2 h; injection h with h3 h; injection h with h4 h; injection h with h5 h; injection h with h6 h; injection h with h7 h8
    subst h1 h2 h3 h4 h5 h6 h7 h8
    exact rof_11 w
  by_cases c12 : a0 = 12
  · subst c12
    replace h := rof_same h (show pintleref03_Of.f 2 12 = some (51, 1, 1, 0, true, true, true, true) from by kernel_rfl)
    injection h with h1 h; injection h with h2 h; injection h with h3 h; injection h with h4 h; injection h with h5 h; injection h with h6 h; injection h with h7 h8
    subst h1 h2 h3 h4 h5 h6 h7 h8
    exact rof_12 w
  by_cases c13 : a0 = 13
  · subst c13
    replace h := rof_same h (show pintleref03_Of.f 2 13 = some (51, 2, 1, 0, true, true, true, true) from by kernel_rfl)
    injection h with h1 h; injection h with h2 h; injection h with h3 h; injection h with h4 h; injection h with h5 h; injection h with h6 h; injection h with h7 h8
    subst h1 h2 h3 h4 h5 h6 h7 h8
    exact rof_13 w
  by_cases c14 : a0 = 14
  · subst c14
    replace h := rof_same h (show pintleref03_Of.f 2 14 = some (51, 3, 1, 0, true, true, true, true) from by kernel_rfl)
    injection h with h1 h; injection h with h2 h; injection h with h3 h; injection h with h4 h; injection h with h5 h; injection h with h6 h; injection h with h7 h8
    subst h1 h2 h3 h4 h5 h6 h7 h8
    exact rof_14 w
  by_cases c15 : a0 = 15
  · subst c15
    replace h := rof_same h (show pintleref03_Of.f 2 15 = some (51, 4, 1, 0, true, true, true, true) from by kernel_rfl)
    injection h with h1 h; injection h with h2 h; injection h with h3 h; injection h with h4 h; injection h with h5 h; injection h with h6 h; injection h with h7 h8
    subst h1 h2 h3 h4 h5 h6 h7 h8
    exact rof_15 w
  by_cases c16 : a0 = 16
  · subst c16
    replace h := rof_same h (show pintleref03_Of.f 2 16 = some (51, 5, 1, 0, true, true, true, true) from by kernel_rfl)
    injection h with h1 h; injection h with h2 h; injection h with h3 h; injection h with h4 h; injection h with h5 h; injection h with h6 h; injection h with h7 h8
    subst h1 h2 h3 h4 h5 h6 h7 h8
    exact rof_16 w
  by_cases c17 : a0 = 17
  · subst c17
    replace h := rof_same h (show pintleref03_Of.f 2 17 = some (51, 6, 1, 0, true, true, true, true) from by kernel_rfl)
    injection h with h1 h; injection h with h2 h; injection h with h3 h; injection h with h4 h; injection h with h5 h; injection h with h6 h; injection h with h7 h8
    subst h1 h2 h3 h4 h5 h6 h7 h8
    exact rof_17 w
  by_cases c18 : a0 = 18
  · subst c18
    replace h := rof_same h (show pintleref03_Of.f 2 18 = some (51, 7, 1, 0, true, true, true, true) from by kernel_rfl)
    injection h with h1 h; injection h with h2 h; injection h with h3 h; injection h with h4 h; injection h with h5 h; injection h with h6 h; injection h with h7 h8
    subst h1 h2 h3 h4 h5 h6 h7 h8
    exact rof_18 w
  by_cases c19 : a0 = 19
  · subst c19
    replace h := rof_same h (show pintleref03_Of.f 2 19 = some (19, 0, 0, 1, true, true, false, true) from by kernel_rfl)
    injection h with h1 h; injection h with h2 h; injection h with h3 h; injection h with h4 h; injection h with h5 h; injection h with h6 h; injection h with h7 h8
    subst h1 h2 h3 h4 h5 h6 h7 h8
    exact rof_19 w
  by_cases c20 : a0 = 20
  · subst c20
    replace h := rof_same h (show pintleref03_Of.f 2 20 = some (19, 2, 0, 1, true, true, false, true) from by kernel_rfl)
    injection h with h1 h; injection h with h2 h; injection h with h3 h; injection h with h4 h; injection h with h5 h; injection h with h6 h; injection h with h7 h8
    subst h1 h2 h3 h4 h5 h6 h7 h8
    exact rof_20 w
  by_cases c21 : a0 = 21
  · subst c21
    replace h := rof_same h (show pintleref03_Of.f 2 21 = some (19, 3, 0, 1, true, true, false, true) from by kernel_rfl)
    injection h with h1 h; injection h with h2 h; injection h with h3 h; injection h with h4 h; injection h with h5 h; injection h with h6 h; injection h with h7 h8
    subst h1 h2 h3 h4 h5 h6 h7 h8
    exact rof_21 w
  by_cases c22 : a0 = 22
  · subst c22
    replace h := rof_same h (show pintleref03_Of.f 2 22 = some (19, 4, 0, 1, true, true, false, true) from by kernel_rfl)
    injection h with h1 h; injection h with h2 h; injection h with h3 h; injection h with h4 h; injection h with h5 h; injection h with h6 h; injection h with h7 h8
    subst h1 h2 h3 h4 h5 h6 h7 h8
    exact rof_22 w
  by_cases c23 : a0 = 23
  · subst c23
    replace h := rof_same h (show pintleref03_Of.f 2 23 = some (19, 6, 0, 1, true, true, false, true) from by kernel_rfl)
    injection h with h1 h; injection h with h2 h; injection h with h3 h; injection h with h4 h; injection h with h5 h; injection h with h6 h; injection h with h7 h8
    subst h1 h2 h3 h4 h5 h6 h7 h8
    exact rof_23 w
  by_cases c24 : a0 = 24
  · subst c24
    replace h := rof_same h (show pintleref03_Of.f 2 24 = some (19, 7, 0, 1, true, true, false, true) from by kernel_rfl)
    injection h with h1 h; injection h with h2 h; injection h with h3 h; injection h with h4 h; injection h with h5 h; injection h with h6 h; injection h with h7 h8
    subst h1 h2 h3 h4 h5 h6 h7 h8
    exact rof_24 w
  by_cases c25 : a0 = 25
  · subst c25
    replace h := rof_same h (show pintleref03_Of.f 2 25 = some (19, 1, 0, 6, true, true, false, true) from by kernel_rfl)
    injection h with h1 h; injection h with h2 h; injection h with h3 h; injection h with h4 h; injection h with h5 h; injection h with h6 h; injection h with h7 h8
    subst h1 h2 h3 h4 h5 h6 h7 h8
    exact rof_25 w
  by_cases c26 : a0 = 26
  · subst c26
    replace h := rof_same h (show pintleref03_Of.f 2 26 = some (19, 5, 0, 6, true, true, false, true) from by kernel_rfl)
    injection h with h1 h; injection h with h2 h; injection h with h3 h; injection h with h4 h; injection h with h5 h; injection h with h6 h; injection h with h7 h8
    subst h1 h2 h3 h4 h5 h6 h7 h8
    exact rof_26 w
  by_cases c27 : a0 = 27
  · subst c27
    replace h := rof_same h (show pintleref03_Of.f 2 27 = some (19, 5, 32, 6, true, true, false, true) from by kernel_rfl)
    injection h with h1 h; injection h with h2 h; injection h with h3 h; injection h with h4 h; injection h with h5 h; injection h with h6 h; injection h with h7 h8
    subst h1 h2 h3 h4 h5 h6 h7 h8
    exact rof_27 w
  by_cases c28 : a0 = 28
  · subst c28
    replace h := rof_same h (show pintleref03_Of.f 2 28 = some (3, 0, 0, 1, true, true, false, true) from by kernel_rfl)
    injection h with h1 h; injection h with h2 h; injection h with h3 h; injection h with h4 h; injection h with h5 h; injection h with h6 h; injection h with h7 h8
    subst h1 h2 h3 h4 h5 h6 h7 h8
    exact rof_28 w
  by_cases c29 : a0 = 29
  · subst c29
    replace h := rof_same h (show pintleref03_Of.f 2 29 = some (3, 1, 0, 1, true, true, false, true) from by kernel_rfl)
    injection h with h1 h; injection h with h2 h; injection h with h3 h; injection h with h4 h; injection h with h5 h; injection h with h6 h; injection h with h7 h8
    subst h1 h2 h3 h4 h5 h6 h7 h8
    exact rof_29 w
  by_cases c30 : a0 = 30
  · subst c30
    replace h := rof_same h (show pintleref03_Of.f 2 30 = some (3, 2, 0, 1, true, true, false, true) from by kernel_rfl)
    injection h with h1 h; injection h with h2 h; injection h with h3 h; injection h with h4 h; injection h with h5 h; injection h with h6 h; injection h with h7 h8
    subst h1 h2 h3 h4 h5 h6 h7 h8
    exact rof_30 w
  by_cases c31 : a0 = 31
  · subst c31
    replace h := rof_same h (show pintleref03_Of.f 2 31 = some (3, 4, 0, 1, true, true, false, true) from by kernel_rfl)
    injection h with h1 h; injection h with h2 h; injection h with h3 h; injection h with h4 h; injection h with h5 h; injection h with h6 h; injection h with h7 h8
    subst h1 h2 h3 h4 h5 h6 h7 h8
    exact rof_31 w
  by_cases c32 : a0 = 32
  · subst c32
    replace h := rof_same h (show pintleref03_Of.f 2 32 = some (3, 5, 0, 1, true, true, false, true) from by kernel_rfl)
    injection h with h1 h; injection h with h2 h; injection h with h3 h; injection h with h4 h; injection h with h5 h; injection h with h6 h; injection h with h7 h8
    subst h1 h2 h3 h4 h5 h6 h7 h8
    exact rof_32 w
  by_cases c33 : a0 = 33
  · subst c33
    replace h := rof_same h (show pintleref03_Of.f 2 33 = some (35, 0, 0, 2, false, true, true, true) from by kernel_rfl)
    injection h with h1 h; injection h with h2 h; injection h with h3 h; injection h with h4 h; injection h with h5 h; injection h with h6 h; injection h with h7 h8
    subst h1 h2 h3 h4 h5 h6 h7 h8
    exact rof_33 w
  by_cases c34 : a0 = 34
  · subst c34
    replace h := rof_same h (show pintleref03_Of.f 2 34 = some (35, 1, 0, 2, false, true, true, true) from by kernel_rfl)
    injection h with h1 h; injection h with h2 h; injection h with h3 h; injection h with h4 h; injection h with h5 h; injection h with h6 h; injection h with h7 h8
    subst h1 h2 h3 h4 h5 h6 h7 h8
    exact rof_34 w
  by_cases c35 : a0 = 35
  · subst c35
    replace h := rof_same h (show pintleref03_Of.f 2 35 = some (35, 2, 0, 2, false, true, true, true) from by kernel_rfl)
    injection h with h1 h; injection h with h2 h; injection h with h3 h; injection h with h4 h; injection h with h5 h; injection h with h6 h; injection h with h7 h8
    subst h1 h2 h3 h4 h5 h6 h7 h8
    exact rof_35 w
  by_cases c36 : a0 = 36
  · subst c36
    replace h := rof_same h (show pintleref03_Of.f 2 36 = some (99, 0, 0, 3, false, true, true, true) from by kernel_rfl)
    injection h with h1 h; injection h with h2 h; injection h with h3 h; injection h with h4 h; injection h with h5 h; injection h with h6 h; injection h with h7 h8
    subst h1 h2 h3 h4 h5 h6 h7 h8
    exact rof_36 w
  by_cases c37 : a0 = 37
  · subst c37
    replace h := rof_same h (show pintleref03_Of.f 2 37 = some (99, 1, 0, 3, false, true, true, true) from by kernel_rfl)
    injection h with h1 h; injection h with h2 h; injection h with h3 h; injection h with h4 h; injection h with h5 h; injection h with h6 h; injection h with h7 h8
    subst h1 h2 h3 h4 h5 h6 h7 h8
    exact rof_37 w
  by_cases c38 : a0 = 38
  · subst c38
    replace h := rof_same h (show pintleref03_Of.f 2 38 = some (99, 4, 0, 3, false, true, true, true) from by kernel_rfl)
    injection h with h1 h; injection h with h2 h; injection h with h3 h; injection h with h4 h; injection h with h5 h; injection h with h6 h; injection h with h7 h8
    subst h1 h2 h3 h4 h5 h6 h7 h8
    exact rof_38 w
  by_cases c39 : a0 = 39
  · subst c39
    replace h := rof_same h (show pintleref03_Of.f 2 39 = some (99, 5, 0, 3, false, true, true, true) from by kernel_rfl)
    injection h with h1 h; injection h with h2 h; injection h with h3 h; injection h with h4 h; injection h with h5 h; injection h with h6 h; injection h with h7 h8
    subst h1 h2 h3 h4 h5 h6 h7 h8
    exact rof_39 w
  by_cases c40 : a0 = 40
  · subst c40
    replace h := rof_same h (show pintleref03_Of.f 2 40 = some (99, 6, 0, 3, false, true, true, true) from by kernel_rfl)
    injection h with h1 h; injection h with h2 h; injection h with h3 h; injection h with h4 h; injection h with h5 h; injection h with h6 h; injection h with h7 h8
    subst h1 h2 h3 h4 h5 h6 h7 h8
    exact rof_40 w
  by_cases c41 : a0 = 41
  · subst c41
    replace h := rof_same h (show pintleref03_Of.f 2 41 = some (99, 7, 0, 3, false, true, true, true) from by kernel_rfl)
    injection h with h1 h; injection h with h2 h; injection h with h3 h; injection h with h4 h; injection h with h5 h; injection h with h6 h; injection h with h7 h8
    subst h1 h2 h3 h4 h5 h6 h7 h8
    exact rof_41 w
  by_cases c42 : a0 = 42
  · subst c42
    replace h := rof_same h (show pintleref03_Of.f 2 42 = some (55, 0, 0, 4, true, false, false, true) from by kernel_rfl)
    injection h with h1 h; injection h with h2 h; injection h with h3 h; injection h with h4 h; injection h with h5 h; injection h with h6 h; injection h with h7 h8
    subst h1 h2 h3 h4 h5 h6 h7 h8
    exact rof_42 w
  by_cases c43 : a0 = 43
  · subst c43
    replace h := rof_same h (show pintleref03_Of.f 2 43 = some (23, 0, 0, 4, true, false, false, true) from by kernel_rfl)
    injection h with h1 h; injection h with h2 h; injection h with h3 h; injection h with h4 h; injection h with h5 h; injection h with h6 h; injection h with h7 h8
    subst h1 h2 h3 h4 h5 h6 h7 h8
    exact rof_43 w
  by_cases c44 : a0 = 44
  · subst c44
    replace h := rof_same h (show pintleref03_Of.f 2 44 = some (111, 0, 0, 5, true, false, false, true) from by kernel_rfl)
    injection h with h1 h; injection h with h2 h; injection h with h3 h; injection h with h4 h; injection h with h5 h; injection h with h6 h; injection h with h7 h8
    subst h1 h2 h3 h4 h5 h6 h7 h8
    exact rof_44 w
  by_cases c45 : a0 = 45
  · subst c45
    replace h := rof_same h (show pintleref03_Of.f 2 45 = some (103, 0, 0, 1, true, true, false, true) from by kernel_rfl)
    injection h with h1 h; injection h with h2 h; injection h with h3 h; injection h with h4 h; injection h with h5 h; injection h with h6 h; injection h with h7 h8
    subst h1 h2 h3 h4 h5 h6 h7 h8
    exact rof_45 w
  by_cases c46 : a0 = 46
  · subst c46
    replace h := rof_same h (show pintleref03_Of.f 2 46 = some (15, 0, 0, 1, false, false, false, true) from by kernel_rfl)
    injection h with h1 h; injection h with h2 h; injection h with h3 h; injection h with h4 h; injection h with h5 h; injection h with h6 h; injection h with h7 h8
    subst h1 h2 h3 h4 h5 h6 h7 h8
    exact rof_46 w
  exact absurd c (by omega)

end Go.Proofs.Ytmjiimajbaeicaa.PInst
