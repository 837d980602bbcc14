/- The reader: a node. -/
import Derived.Test.YtieoklpgnmbpjaaE6
namespace Go.Proofs.Ytieoklpgnmbpjaa.Gr
open Go.RowKit Dr
open Go.Proofs.YtieoklpgnmbpjaaW.PrintWords (Kd Kd.C Kd.R Kd.C_below Kd.C_get Kd.R_below Kd.R_reads Kd.R_reads' Kd.R_types Kd.R_step Kd.R_alloc Kd.R_drew Kd.R_lower add_field Kd.R_append Kd.R_bound Kd.R_move Kd.R_mono Kd.R_nil Kd.R_set Kd.R_ne Kd.R_over' Kd.R_typed Kd.C_nil Kd.R_slice Kd.R_append_rows Kd.R_form)
set_option linter.unusedVariables false
set_option linter.unusedSimpArgs false
set_option maxRecDepth 100000
/-- A node's cells. -/
def nrow (l : List Int) : List Value := [.int .i64 (l.getD 0 0), .int .i64 (l.getD 1 0), .int .i64 (l.getD 2 0), .int .i64 (l.getD 3 0), .int .i64 (l.getD 4 0), .int .i64 (l.getD 5 0), .int .i64 (l.getD 6 0), .int .i64 (l.getD 7 0), .int .i64 (l.getD 8 0), .int .i64 (l.getD 9 0), .int .i64 (l.getD 10 0), .int .i64 (l.getD 11 0), .int .i64 (l.getD 12 0), .int .i64 (l.getD 13 0), .int .i32 (l.getD 14 0), .int .i32 (l.getD 15 0), .int .i64 (l.getD 16 0), .int .i64 (l.getD 17 0), .int .i64 (l.getD 18 0), .int .i64 (l.getD 19 0), .int .i64 (l.getD 20 0), .int .i64 (l.getD 21 0), .int .i64 (l.getD 22 0), .int .i64 (l.getD 23 0), .int .i64 (l.getD 24 0), .int .i64 (l.getD 25 0)]
def nod (s : List Int × Int) : List Int × (List Int × Int) := ((lst 27 s).1, ((lst 27 s).2.1, if (lst 27 s).1.getD 26 0 = 0 then (lst 27 s).2.2 else fails 4 (lst 27 s).2.2))
theorem nod_ok {s : List Int × Int} (h : okB s.1) : okB (nod s).2.1 := by
  have h1 := lst_ok h 27
  unfold nod
  exact h1
theorem sx_in {n : Int} (h : 0 ≤ n ∧ n < 4294967296) : -2147483648 ≤ sx n ∧ sx n ≤ 2147483647 := by
  unfold sx
  split <;> omega
theorem le4_in : ∀ {l : List Int}, okB l → -2147483648 ≤ le4 l ∧ le4 l ≤ 2147483647
  | [], _ => by decide
  | [_], _ => by simp [le4]
  | [_, _], _ => by simp [le4]
  | [_, _, _], _ => by simp [le4]
  | a :: b :: c :: d :: _, h => by
    have h0 := h a (by simp)
    have h1 := h b (by simp)
    have h2 := h c (by simp)
    have h3 := h d (by simp)
    exact sx_in (by omega)
theorem num_in {s : List Int × Int} (h : okB s.1) : -2147483648 ≤ (num s).1 ∧ (num s).1 ≤ 2147483647 := by
  unfold num
  split
  · simp
  · exact le4_in h
theorem lst_in {s : List Int × Int} (h : okB s.1) : ∀ n, ∀ x ∈ (lst n s).1, -2147483648 ≤ x ∧ x ≤ 2147483647
  | 0, _, hx => (nomatch hx)
  | n + 1, x, hx => by
    simp only [lst, List.mem_append, List.mem_singleton] at hx
    rcases hx with hx | rfl
    · exact lst_in h n x hx
    · exact num_in (lst_ok h n)
theorem cons_of {n : Nat} {l : List Int} (h : l.length = n + 1) : ∃ x r, l = x :: r ∧ r.length = n := by
  cases l with
  | nil => cases h
  | cons x r => exact ⟨x, r, rfl, by simpa using h⟩
theorem len27 {l : List Int} (h : l.length = 27) : ∃ x0 x1 x2 x3 x4 x5 x6 x7 x8 x9 x10 x11 x12 x13 x14 x15 x16 x17 x18 x19 x20 x21 x22 x23 x24 x25 x26, l = [x0, x1, x2, x3, x4, x5, x6, x7, x8, x9, x10, x11, x12, x13, x14, x15, x16, x17, x18, x19, x20, x21, x22, x23, x24, x25, x26] := by
  obtain ⟨x0, r0, e0, h0⟩ := cons_of (n := 26) h
  obtain ⟨x1, r1, e1, h1⟩ := cons_of (n := 25) h0
  obtain ⟨x2, r2, e2, h2⟩ := cons_of (n := 24) h1
  obtain ⟨x3, r3, e3, h3⟩ := cons_of (n := 23) h2
  obtain ⟨x4, r4, e4, h4⟩ := cons_of (n := 22) h3
  obtain ⟨x5, r5, e5, h5⟩ := cons_of (n := 21) h4
  obtain ⟨x6, r6, e6, h6⟩ := cons_of (n := 20) h5
  obtain ⟨x7, r7, e7, h7⟩ := cons_of (n := 19) h6
  obtain ⟨x8, r8, e8, h8⟩ := cons_of (n := 18) h7
  obtain ⟨x9, r9, e9, h9⟩ := cons_of (n := 17) h8
  obtain ⟨x10, r10, e10, h10⟩ := cons_of (n := 16) h9
  obtain ⟨x11, r11, e11, h11⟩ := cons_of (n := 15) h10
  obtain ⟨x12, r12, e12, h12⟩ := cons_of (n := 14) h11
  obtain ⟨x13, r13, e13, h13⟩ := cons_of (n := 13) h12
  obtain ⟨x14, r14, e14, h14⟩ := cons_of (n := 12) h13
  obtain ⟨x15, r15, e15, h15⟩ := cons_of (n := 11) h14
  obtain ⟨x16, r16, e16, h16⟩ := cons_of (n := 10) h15
  obtain ⟨x17, r17, e17, h17⟩ := cons_of (n := 9) h16
  obtain ⟨x18, r18, e18, h18⟩ := cons_of (n := 8) h17
  obtain ⟨x19, r19, e19, h19⟩ := cons_of (n := 7) h18
  obtain ⟨x20, r20, e20, h20⟩ := cons_of (n := 6) h19
  obtain ⟨x21, r21, e21, h21⟩ := cons_of (n := 5) h20
  obtain ⟨x22, r22, e22, h22⟩ := cons_of (n := 4) h21
  obtain ⟨x23, r23, e23, h23⟩ := cons_of (n := 3) h22
  obtain ⟨x24, r24, e24, h24⟩ := cons_of (n := 2) h23
  obtain ⟨x25, r25, e25, h25⟩ := cons_of (n := 1) h24
  obtain ⟨x26, r26, e26, h26⟩ := cons_of (n := 0) h25
  have e : r26 = [] := List.eq_nil_of_length_eq_zero h26
  exact ⟨x0, x1, x2, x3, x4, x5, x6, x7, x8, x9, x10, x11, x12, x13, x14, x15, x16, x17, x18, x19, x20, x21, x22, x23, x24, x25, x26, by rw [e0, e1, e2, e3, e4, e5, e6, e7, e8, e9, e10, e11, e12, e13, e14, e15, e16, e17, e18, e19, e20, e21, e22, e23, e24, e25, e26, e]⟩
theorem sl50 (gl : Nat) (n c l h : Nat) (hl : l < c) (h1 : l ≤ h) (h2 : h ≤ c) (W : World) : (Instr.sliceAt 50 (.slice (some ⟨gl, 0, none⟩) n c) (some (.int .i64 (l : Int))) (some (.int .i64 (h : Int))) none).run Try.prog W = .ok (.slice (some ⟨gl, l, none⟩) (h - l) (c - l)) W := by
  have e : (sizeOf (Try.prog.elem 50)).run Try.prog W = .ok 1 W := by kernel_rfl
  rw [run_sliceAt_slice W 50 _ _ _ _ (by kernel_rfl), run_slice_lh W 50 _ _ _ (by kernel_rfl) .i64 .i64 (l : Int) (h : Int) (by omega) (by omega) (by omega), e]
  have hne : c ≠ l := by omega
  simp [go_sem, hne]
theorem arr52 (a : Option Addr) (c : Nat) (W : World) : (Instr.arrayAt 52 (.slice a 2 c)).run Try.prog W = .ok (.pointer a) W := run_arrayAt W 52 3 2 a 2 c (by kernel_rfl) (Nat.le_refl _)
theorem arr53 (a : Option Addr) (c : Nat) (W : World) : (Instr.arrayAt 53 (.slice a 4 c)).run Try.prog W = .ok (.pointer a) W := run_arrayAt W 53 3 4 a 4 c (by kernel_rfl) (Nat.le_refl _)
theorem arr22 (a : Option Addr) (c : Nat) (W : World) : (Instr.arrayAt 22 (.slice a 3 c)).run Try.prog W = .ok (.pointer a) W := run_arrayAt W 22 3 3 a 3 c (by kernel_rfl) (Nat.le_refl _)
theorem ix50 (gl n c i : Nat) (h : i < n) (W : World) : (Instr.indexAt 50 (.slice (some ⟨gl, 0, none⟩) n c) (.int .i64 (i : Int))).run Try.prog W = .ok (.pointer (some ⟨gl, i, none⟩)) W := by
  have e : (sizeOf (Try.prog.elem 50)).run Try.prog W = .ok 1 W := by kernel_rfl
  rw [run_indexAt_slice W 50 _ n c .i64 i (by kernel_rfl), if_pos ⟨by omega, by omega⟩, e]
  simp [go_sem]
theorem C_at {k : IntKind} {W : World} {gl n : Nat} {xs : List Int} (h : Kd.C (Kd.int k) W (some ⟨gl, 0, none⟩) n xs) {i : Nat} {x : Int} (hx : xs[i]? = some x) : W.cell? ⟨gl, i, none⟩ = some (.int k x) := by
  have := C_cell h hx
  rwa [show Addr.add ⟨gl, 0, none⟩ i = ⟨gl, i, none⟩ from by simp [go_sem]] at this
end Go.Proofs.Ytieoklpgnmbpjaa.Gr
