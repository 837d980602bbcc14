/- The law GraphCut. -/
import Derived.Test.YtieoklpgnmbpjaaE25a
import Derived.Test.YtieoklpgnmbpjaaE25b
import Derived.Test.YtieoklpgnmbpjaaE25c
import Derived.Test.YtieoklpgnmbpjaaE25d
import Derived.Test.YtieoklpgnmbpjaaE26
namespace Go.Proofs.Ytieoklpgnmbpjaa.Gr
open Go.RowKit Dr
open Go.Proofs.YtieoklpgnmbpjaaW.PrintWords (Kd Kd.C Kd.R Kd.M_step Kd.C_below Kd.C_get Kd.R_below Kd.R_reads Kd.R_reads' Kd.R_types Kd.R_step Kd.R_alloc Kd.R_drew Kd.R_lower add_field Kd.R_append Kd.R_bound Kd.R_move Kd.R_mono Kd.R_nil Kd.R_set Kd.R_ne Kd.R_over' Kd.R_typed Kd.C_nil Kd.R_slice Kd.R_append_rows Kd.R_form ReadsRow Kd.C_string)
set_option linter.unusedVariables false
set_option linter.unusedSimpArgs false
set_option maxRecDepth 100000
theorem few_is (a b c o : Int) (AU AV : Option Addr) (cU cV : Nat) (cs ds : List (List Int × List Int)) (ns ms : List (List Int)) (w : World) (hcU : cs.length ≤ cU) (hcV : ns.length ≤ cV) (hC : kCo.C w AU cs.length cs) (hN : kNd.C w AV ns.length ns) (hds : (cs.take 82).map fewX = ds) (hms : ns.take 45 = ms) :
    Calls Try.prog 6 #[.agg #[.int .i64 a, .int .i64 b, .int .i64 c, .slice AU cs.length cU, .slice AV ns.length cV, .int .i64 o]] w fun e w' => ∃ Au cu Av cv, e = .returned (.agg #[.int .i64 a, .int .i64 b, .int .i64 c, .slice Au ds.length cu, .slice Av ms.length cv, .int .i64 o]) ∧ kCo.R 42 w' w.heap.size (fun _ => True) (.slice Au ds.length cu) ds ∧ kNd.R 55 w' w.heap.size (fun _ => True) (.slice Av ms.length cv) ms ∧ Below w.heap.size w w' := by
  have h : Calls Try.prog 6 #[.agg #[.int .i64 a, .int .i64 b, .int .i64 c, .slice AU cs.length cU, .slice AV ns.length cV, .int .i64 o]] w fun e w' => ∃ u v, e = .returned (.agg #[.int .i64 a, .int .i64 b, .int .i64 c, u, v, .int .i64 o]) ∧ kCo.R 42 w' w.heap.size (fun _ => True) u ((cs.take 82).map fewX) ∧ kNd.R 55 w' w.heap.size (fun _ => True) v (ns.take 45) ∧ Below w.heap.size w w' := by
    by_cases h1 : ns.length ≤ 45 <;> by_cases h2 : cs.length ≤ 82
    · exact few_a a b c o AU AV cU cV cs ns w hcU hcV hC hN h1 h2
    · exact few_b a b c o AU AV cU cV cs ns w hcU hcV hC hN h1 (by omega)
    · exact few_c a b c o AU AV cU cV cs ns w hcU hcV hC hN (by omega) h2
    · exact few_d a b c o AU AV cU cV cs ns w hcU hcV hC hN (by omega) (by omega)
  rw [hds, hms] at h
  refine h.mono fun e w' ⟨u, v, he, hu, hv, hB⟩ => ?_
  obtain ⟨Au, cu, rfl⟩ := Kd.R_slice hu
  obtain ⟨Av, cv, rfl⟩ := Kd.R_slice hv
  exact ⟨Au, cu, Av, cv, he, hu, hv, hB⟩
theorem lgB_two {cs : List (List Int × List Int)} {ns : List (List Int)} (h : (lgB cs ns).1 = false) (h2 : (lgB cs ns).2 = false) : ∀ x ∈ cs, x.1 = [] ∨ x.2 = [] := by
  have hi := lgB_in h
  unfold lgB at h2
  rw [if_neg (by omega)] at h2
  intro x hx
  have h3 := List.any_eq_false.1 h2 x hx
  unfold bothC at h3
  simp only [Bool.and_eq_true, decide_eq_true_eq] at h3
  by_cases q : x.1 = []
  · exact .inl q
  · refine .inr (List.eq_nil_of_length_eq_zero ?_)
    have := List.length_pos_iff.2 q
    omega
/-- What writing a network leaves, whether it may be written or not. -/
theorem WQ_forms {w : World} {a b c o : Int} {cs : List (List Int × List Int)} {ns : List (List Int)} {e : Ending} {w' : World} (h : WQ w a b c o cs ns e w') (h8 : ∀ x ∈ cs, ∀ z ∈ x.1, -128 ≤ z ∧ z ≤ 127) (h32 : ∀ x ∈ cs, ∀ z ∈ x.2, -2147483648 ≤ z ∧ z ≤ 2147483647) :
    ∃ A m cc k, e = .returned (.tuple #[.slice A m cc, .int .i64 k]) ∧ Below w.heap.size w w' ∧ (k ≠ 0 ∨ (k = 0 ∧ goodG a b c o cs ns ∧ m = (gb a b c o cs ns).length ∧ Kd.R (Kd.int .u8) 5 w' w.heap.size (fun _ => True) (.slice A m cc) (gb a b c o cs ns))) := by
  obtain ⟨hB, h⟩ := h
  split at h
  · exact ⟨none, 0, 0, 2, h, hB, .inl (by decide)⟩
  · rename_i h1
    split at h
    · exact ⟨none, 0, 0, 4, h, hB, .inl (by decide)⟩
    · rename_i h2
      obtain ⟨v, he, hR⟩ := h
      obtain ⟨A, cc, rfl⟩ := Kd.R_slice hR
      have q1 : (lgB cs ns).1 = false := by cases q : (lgB cs ns).1; rfl; exact absurd (.inl q) h1
      have q2 : (lgB cs ns).2 = false := by cases q : (lgB cs ns).2; rfl; exact absurd q h2
      have q3 : gok a b c o cs ns = true := by cases q : gok a b c o cs ns; exact absurd (.inr (.inl q)) h1; rfl
      have hi := lgB_in q1
      exact ⟨A, _, cc, 0, he, hB, .inr ⟨rfl, ⟨hi.1, hi.2.1, fun x hx => ⟨(hi.2.2 x hx).1, (hi.2.2 x hx).2, h8 x hx, h32 x hx, lgB_two q1 q2 x hx⟩, q3⟩, rfl, hR⟩⟩
theorem few_mem {cs : List (List Int × List Int)} {x : List Int × List Int} (h : x ∈ (cs.take 82).map fewX) : ∃ y ∈ cs, x = (y.1.take 200, y.2.take 60) := by
  obtain ⟨y, hy, rfl⟩ := List.mem_map.1 h
  exact ⟨y, List.mem_of_mem_take hy, rfl⟩
theorem few_small {a b c o : Int} {cs ds : List (List Int × List Int)} {ns : List (List Int)} (hds : (cs.take 82).map fewX = ds) (hg : goodG a b c o ds ns) : (gb a b c o ds ns).length ≤ 41000 := by
  have h1 := flat_le (f := cb) (m := 448) (l := ds) (fun x hx => by
    rw [← hds] at hx
    obtain ⟨y, _, rfl⟩ := few_mem hx
    rw [cb_len]
    simp only [List.length_take]
    omega)
  have h2 := flat_le (f := nb) (m := 108) (l := ns) (fun x hx => by rw [nb_len]; omega)
  have h3 := Nat.le_trans h1 (Nat.mul_le_mul_right 448 hg.c80)
  have h4 := Nat.le_trans h2 (Nat.mul_le_mul_right 108 hg.n40)
  rw [gb_len]
  omega
theorem cv37 (n : Nat) (h : n < 65536) (W : World) : (convert 37 3 (.int .u16 (n : Int))).run Try.prog W = .ok (.int .i64 (n : Int)) W := by
  rw [show (convert 37 3 (.int .u16 (n : Int))).run Try.prog W = .ok (.int .i64 (IntKind.i64.wrap (n : Int))) W by kernel_rfl, IntWalk.i64_in _ (by omega)]
theorem rem_nat (n L : Nat) (hn : n < 65536) (hL : 0 < L) (W : World) : (binOp .rem 3 (.int .i64 (n : Int)) (.int .i64 (L : Int))).run Try.prog W = .ok (.int .i64 ((n % L : Nat) : Int)) W := by
  have e : (n : Int).tmod (L : Int) = ((n % L : Nat) : Int) := by rw [Int.tmod_eq_emod_of_nonneg (by omega)]; simp
  have h2 : n % L ≤ n := Nat.mod_le _ _
  have h0 : ¬ L = 0 := by omega
  simp [binOp, go_sem, e, h0]
end Go.Proofs.Ytieoklpgnmbpjaa.Gr
