/- A network is cut to some size: what lies in memory. -/
import Derived.Test.YtieoklpgnmbpjaaE24
namespace Go.Proofs.Ytieoklpgnmbpjaa.Gr
open Go.RowKit Dr
open Go.Proofs.YtieoklpgnmbpjaaW.PrintWords (Reps Kd Kd.C Kd.R Kd.M_step Kd.C_below Kd.C_get Kd.R_below Kd.R_reads Kd.R_reads' Kd.R_types Kd.R_step Kd.R_alloc Kd.R_drew Kd.R_lower add_field Kd.R_append Kd.R_bound Kd.R_move Kd.R_mono Kd.R_nil Kd.R_set Kd.R_ne Kd.R_over' Kd.R_typed Kd.C_nil Kd.R_slice Kd.R_append_rows Kd.R_form ReadsRow Kd.C_string)
set_option linter.unusedVariables false
set_option linter.unusedSimpArgs false
set_option maxRecDepth 100000
theorem slh24 {ad : Addr} {n c : Nat} (h : Nat) (hn : h ≤ c) (w : World) : (Instr.sliceAt 24 (.slice (some ad) n c) none (some (.int .i64 (h : Int))) none).run Try.prog w = .ok (.slice (some ad) h c) w := by
  have e : (sizeOf (Try.prog.elem 24)).run Try.prog w = .ok 26 w := by kernel_rfl
  rw [run_sliceAt_slice w 24 _ _ _ _ (by kernel_rfl), run_slice_h w 24 _ _ _ (by kernel_rfl) .i64 (h : Int) (by omega) (by omega), e]
  simp [go_sem]
theorem slh23 {ad : Addr} {n c : Nat} (h : Nat) (hn : h ≤ c) (w : World) : (Instr.sliceAt 23 (.slice (some ad) n c) none (some (.int .i64 (h : Int))) none).run Try.prog w = .ok (.slice (some ad) h c) w := by
  have e : (sizeOf (Try.prog.elem 23)).run Try.prog w = .ok 2 w := by kernel_rfl
  rw [run_sliceAt_slice w 23 _ _ _ _ (by kernel_rfl), run_slice_h w 23 _ _ _ (by kernel_rfl) .i64 (h : Int) (by omega) (by omega), e]
  simp [go_sem]
theorem slh39 {ad : Addr} {n c : Nat} (h : Nat) (hn : h ≤ c) (w : World) : (Instr.sliceAt 39 (.slice (some ad) n c) none (some (.int .i64 (h : Int))) none).run Try.prog w = .ok (.slice (some ad) h c) w := by
  have e : (sizeOf (Try.prog.elem 39)).run Try.prog w = .ok 1 w := by kernel_rfl
  rw [run_sliceAt_slice w 39 _ _ _ _ (by kernel_rfl), run_slice_h w 39 _ _ _ (by kernel_rfl) .i64 (h : Int) (by omega) (by omega), e]
  simp [go_sem]
theorem slh40 {ad : Addr} {n c : Nat} (h : Nat) (hn : h ≤ c) (w : World) : (Instr.sliceAt 40 (.slice (some ad) n c) none (some (.int .i64 (h : Int))) none).run Try.prog w = .ok (.slice (some ad) h c) w := by
  have e : (sizeOf (Try.prog.elem 40)).run Try.prog w = .ok 1 w := by kernel_rfl
  rw [run_sliceAt_slice w 40 _ _ _ _ (by kernel_rfl), run_slice_h w 40 _ _ _ (by kernel_rfl) .i64 (h : Int) (by omega) (by omega), e]
  simp [go_sem]
theorem R_empty {α : Type} {d : Kd α} {W : World} {g e base : Nat} (h : W.heap[g]? = some (.cells #[] e (0, 0))) (hb : base ≤ g) (hd : Reps (d.M W base (fun k => True ∧ some k ≠ Value.ownBlock (.slice (some ⟨g, 0, none⟩) 0 0))) d.sz [] []) : d.R e W base (fun _ => True) (.slice (some ⟨g, 0, none⟩) 0 0) [] :=
  ⟨fun _ _ => trivial, [], ⟨by simp, .inr ⟨g, 0, #[], rfl, hb, h, Nat.le_refl _, Nat.zero_le _, by simp, by simp⟩⟩, hd⟩
theorem bld42 {u v : Value} (hu : ∃ A n c, u = .slice A n c) (hv : ∃ A n c, v = .slice A n c) (W : World) : (Instr.build 42 #[(0, u), (1, v)]).run Try.prog W = .ok (.agg #[u, v]) W := by
  obtain ⟨A, n, c, rfl⟩ := hu
  obtain ⟨A2, n2, c2, rfl⟩ := hv
  kernel_rfl
theorem bls23 {u v : Value} (hu : ∃ A n c, u = .slice A n c) (hv : ∃ A n c, v = .slice A n c) (W : World) : (Instr.buildSlice 23 1 #[(0, .agg #[u, v])]).run Try.prog W = .ok (.slice (some ⟨W.heap.size, 0, none⟩) 1 1) (W.alloc (.cells #[u, v] 42)) := by
  obtain ⟨A, n, c, rfl⟩ := hu
  obtain ⟨A2, n2, c2, rfl⟩ := hv
  kernel_rfl
theorem reps_nil {α : Type} {R : α → List Value → Prop} {sz : Nat} : Reps R sz [] [] := ⟨by simp, fun j p hj => by simp at hj⟩
theorem oper_of_step {P : Program} {Q : Exit → Act → World → Prop} {K : Act → World → Prop} {o : Oper} {a : Act} {W : World} {y : Nat → Option Bool} (hg : o.guard = none) (h : if Region.wanted o y = true then Oper.wp P o a W K Q else K (a.put o.dst undef) W) : Oper.wp P o a W K Q := by
  have e : Region.wanted o y = true := by simp [Region.wanted, hg]
  rw [if_pos e] at h
  exact h
theorem wanted_none {o : Oper} {y : Nat → Option Bool} (hg : o.guard = none) : Region.wanted o y = true := by simp [Region.wanted, hg]
/-- What lies in memory while the constants are cut. -/
structure FS (w : World) (ROW : Array Value) (W : World) (l : Value) (xs : List (List Int × List Int)) : Prop where
  bel : Below w.heap.size w W
  gx : W.heap[w.heap.size]? = some (.cells ROW 26 (0, 0))
  res : W.heap[w.heap.size + 1]? = some (.cells #[.int .i64 0, .int .i64 0, .int .i64 0, .slice none 0 0, .slice none 0 0, .int .i64 0] 26 (0, 0))
  r : kCo.R 42 W (w.heap.size + 2) (fun _ => True) l xs
theorem FS.below {w W W' : World} {ROW : Array Value} {l : Value} {xs : List (List Int × List Int)} (h : FS w ROW W l xs) (hb : Below W.heap.size W W') : FS w ROW W' l xs := ⟨below_step h.bel hb, blk_below h.gx hb, blk_below h.res hb, Kd.R_below h.r hb⟩
theorem FS.size {w W : World} {ROW : Array Value} {l : Value} {xs : List (List Int × List Int)} (h : FS w ROW W l xs) : w.heap.size + 2 ≤ W.heap.size := by have := blk_lt h.res; omega
theorem FS.app {w W W1 : World} {ROW : Array Value} {l l1 : Value} {xs ys : List (List Int × List Int)} (h : FS w ROW W l xs) (hr : kCo.R 42 W1 (w.heap.size + 2) (fun _ => True) l1 ys) (hB : Below (w.heap.size + 2) W W1) : FS w ROW W1 l1 ys :=
  ⟨h.bel.trans (hB.mono (by omega)), (hB.block _ (by omega)).trans h.gx, (hB.block _ (by omega)).trans h.res, hr⟩
theorem map_snoc2 {α β : Type} {f : α → β} {xs : List α} {i : Nat} {x : α} (h : xs[i]? = some x) : (xs.take (i + 1)).map f = (xs.take i).map f ++ [f x] := by
  rw [List.take_add_one, h, List.map_append]
  rfl
end Go.Proofs.Ytieoklpgnmbpjaa.Gr
