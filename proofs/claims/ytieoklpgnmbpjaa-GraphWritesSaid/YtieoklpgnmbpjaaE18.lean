/- Networks that are one are the same: what is compared. -/
import Derived.Test.YtieoklpgnmbpjaaE15
import Derived.Test.YtieoklpgnmbpjaaE16
import Derived.Test.YtieoklpgnmbpjaaDr3
import Derived.Test.YtieoklpgnmbpjaaWEqStruct
import Derived.ChangeKeysEq
namespace Go.Proofs.Ytieoklpgnmbpjaa.Gr
open Go.RowKit Dr
open Go.Proofs.YtieoklpgnmbpjaaW.PrintWords (Kd Kd.C Kd.R Kd.M_step Kd.C_below Kd.C_get Kd.R_below Kd.R_reads Kd.R_reads' Kd.R_types Kd.R_step Kd.R_alloc Kd.R_drew Kd.R_lower add_field Kd.R_append Kd.R_bound Kd.R_move Kd.R_mono Kd.R_nil Kd.R_set Kd.R_ne Kd.R_over' Kd.R_typed Kd.C_nil Kd.R_slice Kd.R_append_rows Kd.R_form ReadsRow Kd.C_string)
set_option linter.unusedVariables false
set_option linter.unusedSimpArgs false
set_option maxRecDepth 100000
open Go.Proofs.YtieoklpgnmbpjaaW.PrintWords (eqf_end eqf_nil eqA_of)
theorem infoE3 : ∃ i, Try.prog.info? 3 = some i := by
  have h : (Try.prog.info? 3).isSome = true := by kernel_rfl
  exact Option.isSome_iff_exists.mp h
theorem cellsE3 : Try.prog.cellsOf 3 = 1 := by kernel_rfl
theorem partE3 (xs : Array Value) (i : Nat) (k : Int) (w : World) (h : xs[i]? = some (.int .i64 k)) : (part 3 xs i).run Try.prog w = .ok (.int .i64 k) w := by
  unfold part
  simp [h, go_sem]
theorem partE21 (xs : Array Value) (i : Nat) (k : Int) (w : World) (h : xs[i]? = some (.int .i32 k)) : (part 21 xs i).run Try.prog w = .ok (.int .i32 k) w := by
  unfold part
  simp [h, go_sem]
theorem eqI3 (d : Nat) (x : Int) (w : World) : (Op.equalIn (d + 1) 3 (.int .i64 x) (.int .i64 x)).run Try.prog w = .ok true w := by
  rw [run_equalIn_int w d 3 .i64 .i64 x x Try.underlying3]
  simp
theorem eqI21 (d : Nat) (x : Int) (w : World) : (Op.equalIn (d + 1) 21 (.int .i32 x) (.int .i32 x)).run Try.prog w = .ok true w := by
  rw [run_equalIn_int w d 21 .i32 .i32 x x Try.underlying21]
  simp
theorem eqA52 (d : Nat) (p0 p1 : Int) (w : World) : (Op.equalIn (d + 1 + 1) 52 (.agg #[Value.int .i64 p0, Value.int .i64 p1]) (.agg #[Value.int .i64 p0, Value.int .i64 p1])).run Try.prog w = .ok true w := by
  obtain ⟨i, hi⟩ := infoE3
  rw [run_equalIn_array w (d + 1) _ _ Try.underlying52 hi, cellsE3]
  simp only [Op.eqItems, List.range, List.range.loop]
  have A0 := partE3 #[Value.int .i64 p0, Value.int .i64 p1] (0 * 1) p0 w rfl
  have A1 := partE3 #[Value.int .i64 p0, Value.int .i64 p1] (1 * 1) p1 w rfl
  simp only [Sem.run_bind, A0, A1, eqI3, Result.andThen_ok, Bool.not_true, ↓reduceIte, Bool.false_eq_true] <;> rfl
theorem partE52 (xs : Array Value) (i : Nat) (ys : Array Value) (w : World) (h : xs.extract i (i + 2) = ys) : (part 52 xs i).run Try.prog w = .ok (.agg ys) w := by
  unfold part
  have h1 : (isAgg 52).run Try.prog w = .ok true w := by kernel_rfl
  have h2 : (Go.sizeOf 52).run Try.prog w = .ok 2 w := by kernel_rfl
  simp [Sem.run_bind, h1, h2, h]
theorem eqA53 (d : Nat) (p0 p1 p2 p3 : Int) (w : World) : (Op.equalIn (d + 1 + 1) 53 (.agg #[Value.int .i64 p0, Value.int .i64 p1, Value.int .i64 p2, Value.int .i64 p3]) (.agg #[Value.int .i64 p0, Value.int .i64 p1, Value.int .i64 p2, Value.int .i64 p3])).run Try.prog w = .ok true w := by
  obtain ⟨i, hi⟩ := infoE3
  rw [run_equalIn_array w (d + 1) _ _ Try.underlying53 hi, cellsE3]
  simp only [Op.eqItems, List.range, List.range.loop]
  have A0 := partE3 #[Value.int .i64 p0, Value.int .i64 p1, Value.int .i64 p2, Value.int .i64 p3] (0 * 1) p0 w rfl
  have A1 := partE3 #[Value.int .i64 p0, Value.int .i64 p1, Value.int .i64 p2, Value.int .i64 p3] (1 * 1) p1 w rfl
  have A2 := partE3 #[Value.int .i64 p0, Value.int .i64 p1, Value.int .i64 p2, Value.int .i64 p3] (2 * 1) p2 w rfl
  have A3 := partE3 #[Value.int .i64 p0, Value.int .i64 p1, Value.int .i64 p2, Value.int .i64 p3] (3 * 1) p3 w rfl
  simp only [Sem.run_bind, A0, A1, A2, A3, eqI3, Result.andThen_ok, Bool.not_true, ↓reduceIte, Bool.false_eq_true] <;> rfl
theorem partE53 (xs : Array Value) (i : Nat) (ys : Array Value) (w : World) (h : xs.extract i (i + 4) = ys) : (part 53 xs i).run Try.prog w = .ok (.agg ys) w := by
  unfold part
  have h1 : (isAgg 53).run Try.prog w = .ok true w := by kernel_rfl
  have h2 : (Go.sizeOf 53).run Try.prog w = .ok 4 w := by kernel_rfl
  simp [Sem.run_bind, h1, h2, h]
theorem eqA22 (d : Nat) (p0 p1 p2 : Int) (w : World) : (Op.equalIn (d + 1 + 1) 22 (.agg #[Value.int .i64 p0, Value.int .i64 p1, Value.int .i64 p2]) (.agg #[Value.int .i64 p0, Value.int .i64 p1, Value.int .i64 p2])).run Try.prog w = .ok true w := by
  obtain ⟨i, hi⟩ := infoE3
  rw [run_equalIn_array w (d + 1) _ _ Try.underlying22 hi, cellsE3]
  simp only [Op.eqItems, List.range, List.range.loop]
  have A0 := partE3 #[Value.int .i64 p0, Value.int .i64 p1, Value.int .i64 p2] (0 * 1) p0 w rfl
  have A1 := partE3 #[Value.int .i64 p0, Value.int .i64 p1, Value.int .i64 p2] (1 * 1) p1 w rfl
  have A2 := partE3 #[Value.int .i64 p0, Value.int .i64 p1, Value.int .i64 p2] (2 * 1) p2 w rfl
  simp only [Sem.run_bind, A0, A1, A2, eqI3, Result.andThen_ok, Bool.not_true, ↓reduceIte, Bool.false_eq_true] <;> rfl
theorem partE22 (xs : Array Value) (i : Nat) (ys : Array Value) (w : World) (h : xs.extract i (i + 3) = ys) : (part 22 xs i).run Try.prog w = .ok (.agg ys) w := by
  unfold part
  have h1 : (isAgg 22).run Try.prog w = .ok true w := by kernel_rfl
  have h2 : (Go.sizeOf 22).run Try.prog w = .ok 3 w := by kernel_rfl
  simp [Sem.run_bind, h1, h2, h]
theorem eqN (x0 x1 x2 x3 x4 x5 x6 x7 x8 x9 x10 x11 x12 x13 x14 x15 x16 x17 x18 x19 x20 x21 x22 x23 x24 x25 : Int) (w : World) : (Op.equalIn 10000 55 (.agg #[.int .i64 x0, .int .i64 x1, .int .i64 x2, .int .i64 x3, .int .i64 x4, .int .i64 x5, .int .i64 x6, .int .i64 x7, .int .i64 x8, .int .i64 x9, .int .i64 x10, .int .i64 x11, .int .i64 x12, .int .i64 x13, .int .i32 x14, .int .i32 x15, .int .i64 x16, .int .i64 x17, .int .i64 x18, .int .i64 x19, .int .i64 x20, .int .i64 x21, .int .i64 x22, .int .i64 x23, .int .i64 x24, .int .i64 x25]) (.agg #[.int .i64 x0, .int .i64 x1, .int .i64 x2, .int .i64 x3, .int .i64 x4, .int .i64 x5, .int .i64 x6, .int .i64 x7, .int .i64 x8, .int .i64 x9, .int .i64 x10, .int .i64 x11, .int .i64 x12, .int .i64 x13, .int .i32 x14, .int .i32 x15, .int .i64 x16, .int .i64 x17, .int .i64 x18, .int .i64 x19, .int .i64 x20, .int .i64 x21, .int .i64 x22, .int .i64 x23, .int .i64 x24, .int .i64 x25])).run Try.prog w = .ok true w :=
  eqA_of (d := 9999) Try.underlying55 (by kernel_rfl) (eqf_end (by kernel_rfl) (partE3 _ 0 x0 w rfl) (partE3 _ 0 x0 w rfl) (eqI3 _ x0 w) (eqf_end (by kernel_rfl) (partE3 _ 1 x1 w rfl) (partE3 _ 1 x1 w rfl) (eqI3 _ x1 w) (eqf_end (by kernel_rfl) (partE3 _ 2 x2 w rfl) (partE3 _ 2 x2 w rfl) (eqI3 _ x2 w) (eqf_end (by kernel_rfl) (partE52 _ 3 #[Value.int .i64 x3, Value.int .i64 x4] w rfl) (partE52 _ 3 #[Value.int .i64 x3, Value.int .i64 x4] w rfl) (eqA52 _ x3 x4 w) (eqf_end (by kernel_rfl) (partE52 _ 5 #[Value.int .i64 x5, Value.int .i64 x6] w rfl) (partE52 _ 5 #[Value.int .i64 x5, Value.int .i64 x6] w rfl) (eqA52 _ x5 x6 w) (eqf_end (by kernel_rfl) (partE53 _ 7 #[Value.int .i64 x7, Value.int .i64 x8, Value.int .i64 x9, Value.int .i64 x10] w rfl) (partE53 _ 7 #[Value.int .i64 x7, Value.int .i64 x8, Value.int .i64 x9, Value.int .i64 x10] w rfl) (eqA53 _ x7 x8 x9 x10 w) (eqf_end (by kernel_rfl) (partE3 _ 11 x11 w rfl) (partE3 _ 11 x11 w rfl) (eqI3 _ x11 w) (eqf_end (by kernel_rfl) (partE3 _ 12 x12 w rfl) (partE3 _ 12 x12 w rfl) (eqI3 _ x12 w) (eqf_end (by kernel_rfl) (partE3 _ 13 x13 w rfl) (partE3 _ 13 x13 w rfl) (eqI3 _ x13 w) (eqf_end (by kernel_rfl) (partE21 _ 14 x14 w rfl) (partE21 _ 14 x14 w rfl) (eqI21 _ x14 w) (eqf_end (by kernel_rfl) (partE21 _ 15 x15 w rfl) (partE21 _ 15 x15 w rfl) (eqI21 _ x15 w) (eqf_end (by kernel_rfl) (partE3 _ 16 x16 w rfl) (partE3 _ 16 x16 w rfl) (eqI3 _ x16 w) (eqf_end (by kernel_rfl) (partE3 _ 17 x17 w rfl) (partE3 _ 17 x17 w rfl) (eqI3 _ x17 w) (eqf_end (by kernel_rfl) (partE3 _ 18 x18 w rfl) (partE3 _ 18 x18 w rfl) (eqI3 _ x18 w) (eqf_end (by kernel_rfl) (partE3 _ 19 x19 w rfl) (partE3 _ 19 x19 w rfl) (eqI3 _ x19 w) (eqf_end (by kernel_rfl) (partE3 _ 20 x20 w rfl) (partE3 _ 20 x20 w rfl) (eqI3 _ x20 w) (eqf_end (by kernel_rfl) (partE3 _ 21 x21 w rfl) (partE3 _ 21 x21 w rfl) (eqI3 _ x21 w) (eqf_end (by kernel_rfl) (partE3 _ 22 x22 w rfl) (partE3 _ 22 x22 w rfl) (eqI3 _ x22 w) (eqf_end (by kernel_rfl) (partE22 _ 23 #[Value.int .i64 x23, Value.int .i64 x24, Value.int .i64 x25] w rfl) (partE22 _ 23 #[Value.int .i64 x23, Value.int .i64 x24, Value.int .i64 x25] w rfl) (eqA22 _ x23 x24 x25 w) eqf_nil)))))))))))))))))))
theorem neqA22 (a b c : Int) (w : World) : (binOp .neq 22 (.agg #[.int .i64 a, .int .i64 b, .int .i64 c]) (.agg #[.int .i64 a, .int .i64 b, .int .i64 c])).run Try.prog w = .ok (.bool false) w := by
  rw [run_neq_struct, eqA22 9998 a b c w]
  rfl
theorem neqN (x : List Int) (p q : Operand) (w : World) : (do eqGuard .neq 55 p q (.agg (nrow x).toArray) (.agg (nrow x).toArray); binOp .neq 55 (.agg (nrow x).toArray) (.agg (nrow x).toArray) : Sem Value).run Try.prog w = .ok (.bool false) w := by
  have h := eqN (x.getD 0 0) (x.getD 1 0) (x.getD 2 0) (x.getD 3 0) (x.getD 4 0) (x.getD 5 0) (x.getD 6 0) (x.getD 7 0) (x.getD 8 0) (x.getD 9 0) (x.getD 10 0) (x.getD 11 0) (x.getD 12 0) (x.getD 13 0) (x.getD 14 0) (x.getD 15 0) (x.getD 16 0) (x.getD 17 0) (x.getD 18 0) (x.getD 19 0) (x.getD 20 0) (x.getD 21 0) (x.getD 22 0) (x.getD 23 0) (x.getD 24 0) (x.getD 25 0) w
  rw [Sem.run_bind, run_eqGuard_agg (P := Try.prog) w .neq 55 p q _ _ (by kernel_rfl)]
  simp only [Result.andThen_ok]
  rw [run_neq_struct]
  rw [show (Op.equalIn 10000 55 (.agg (nrow x).toArray) (.agg (nrow x).toArray)).run Try.prog w = .ok true w from h]
  rfl
/-- What holds while two constants are laid into blocks of their own. -/
structure SG (W3 : World) (X : Array Value) (d : Nat → Bool) (vs : Nat → Value) (W : World) : Prop where
  bel : Below W3.heap.size W3 W
  dd : d 12 = true → d 10 = true
  h10 : d 10 = true → ∃ g : Nat, vs 10 = .pointer (some ⟨g, 0, none⟩) ∧ W3.heap.size ≤ g ∧ W.heap[g]? = some (.cells (if d 12 = true then X else #[.slice none 0 0, .slice none 0 0]) 42 (0, 0))
  h11 : d 11 = true → ∃ g : Nat, vs 11 = .pointer (some ⟨g, 0, none⟩) ∧ W3.heap.size ≤ g ∧ W.heap[g]? = some (.cells #[.slice none 0 0, .slice none 0 0] 42 (0, 0)) ∧ (d 10 = true → vs 10 ≠ vs 11)
theorem SG.other {W3 W : World} {X : Array Value} {d : Nat → Bool} {vs : Nat → Value} (h : SG W3 X d vs W) {k : Nat} (hk : k ≠ 10 ∧ k ≠ 11 ∧ k ≠ 12) (v : Value) : SG W3 X (upD d k) (upd vs k v) W := by
  have e10 : upD d k 10 = d 10 := if_neg (Ne.symm hk.1)
  have e11 : upD d k 11 = d 11 := if_neg (Ne.symm hk.2.1)
  have e12 : upD d k 12 = d 12 := if_neg (Ne.symm hk.2.2)
  have f10 : upd vs k v 10 = vs 10 := upd_other _ _ _ (Ne.symm hk.1)
  have f11 : upd vs k v 11 = vs 11 := upd_other _ _ _ (Ne.symm hk.2.1)
  exact ⟨h.bel, by rw [e10, e12]; exact h.dd, by rw [e10, e12, f10]; exact h.h10, by rw [e10, e11, f10, f11]; exact h.h11⟩
theorem SG.a10 {W3 W : World} {X : Array Value} {d : Nat → Bool} {vs : Nat → Value} (h : SG W3 X d vs W) (hd : d 10 = false) : SG W3 X (upD d 10) (upd vs 10 (.pointer (some ⟨W.heap.size, 0, none⟩))) (W.alloc (.cells #[.slice none 0 0, .slice none 0 0] 42)) := by
  have e10 : upD d 10 10 = true := if_pos rfl
  have e11 : upD d 10 11 = d 11 := if_neg (by decide)
  have e12 : upD d 10 12 = d 12 := if_neg (by decide)
  have d12 : d 12 = false := by cases q : d 12; rfl; (have := h.dd q; rw [hd] at this; cases this)
  refine ⟨h.bel.alloc h.bel.size _, fun _ => e10, fun _ => ⟨W.heap.size, upd_same _ _ _, h.bel.size, by rw [e12, d12]; exact blk_new _ _⟩, ?_⟩
  rw [e11]
  intro h11
  obtain ⟨g, q1, q2, q3, _⟩ := h.h11 h11
  refine ⟨g, by rw [upd_other _ _ _ (by decide)]; exact q1, q2, blk_alloc q3 _, fun _ e => ?_⟩
  rw [upd_same, upd_other _ _ _ (by decide), q1] at e
  have := blk_lt q3
  injection e with e
  injection e with e
  injection e with e
  omega
theorem SG.a11 {W3 W : World} {X : Array Value} {d : Nat → Bool} {vs : Nat → Value} (h : SG W3 X d vs W) : SG W3 X (upD d 11) (upd vs 11 (.pointer (some ⟨W.heap.size, 0, none⟩))) (W.alloc (.cells #[.slice none 0 0, .slice none 0 0] 42)) := by
  have e10 : upD d 11 10 = d 10 := if_neg (by decide)
  have e11 : upD d 11 11 = true := if_pos rfl
  have e12 : upD d 11 12 = d 12 := if_neg (by decide)
  have f10 : upd vs 11 (.pointer (some ⟨W.heap.size, 0, none⟩)) 10 = vs 10 := upd_other _ _ _ (by decide)
  refine ⟨h.bel.alloc h.bel.size _, by rw [e10, e12]; exact h.dd, ?_, fun _ => ⟨W.heap.size, upd_same _ _ _, h.bel.size, blk_new _ _, ?_⟩⟩
  · rw [e10, e12, f10]
    intro h10
    obtain ⟨g, q1, q2, q3⟩ := h.h10 h10
    exact ⟨g, q1, q2, blk_alloc q3 _⟩
  · rw [e10, f10, upd_same]
    intro h10 e
    obtain ⟨g, q1, q2, q3⟩ := h.h10 h10
    rw [q1] at e
    have := blk_lt q3
    injection e with e
    injection e with e
    injection e with e
    omega
theorem SG.s12 {W3 W : World} {X : Array Value} {d : Nat → Bool} {vs : Nat → Value} (h : SG W3 X d vs W) (hd : d 12 = false) (h10 : d 10 = true) (hX : X.size = 2) : ∃ g : Nat, vs 10 = .pointer (some ⟨g, 0, none⟩) ∧ W.heap[g]? = some (.cells #[.slice none 0 0, .slice none 0 0] 42 (0, 0)) ∧ SG W3 X (upD d 12) (upd vs 12 undef) (W.setCells g 0 X.toList) := by
  obtain ⟨g, q1, q2, q3⟩ := h.h10 h10
  rw [hd] at q3
  have q3' : W.heap[g]? = some (.cells #[.slice none 0 0, .slice none 0 0] 42 (0, 0)) := q3
  have e10 : upD d 12 10 = d 10 := if_neg (by decide)
  have e11 : upD d 12 11 = d 11 := if_neg (by decide)
  have e12 : upD d 12 12 = true := if_pos rfl
  have f10 : upd vs 12 undef 10 = vs 10 := upd_other _ _ _ (by decide)
  have f11 : upd vs 12 undef 11 = vs 11 := upd_other _ _ _ (by decide)
  refine ⟨g, q1, q3', below_setsL _ 0 0 h.bel q2, fun _ => by rw [e10]; exact h10, fun _ => ⟨g, by rw [f10]; exact q1, q2, by rw [e12]; exact blk_puts (cs' := X) q3' (by rw [hX]; rfl)⟩, ?_⟩
  rw [e10, e11, f10, f11]
  intro h11
  obtain ⟨g2, p1, p2, p3, p4⟩ := h.h11 h11
  refine ⟨g2, p1, p2, blk_puts_far p3 (fun e => p4 h10 (by rw [q1, p1, e])), p4⟩
end Go.Proofs.Ytieoklpgnmbpjaa.Gr
