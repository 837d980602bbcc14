/- A network is cut to some size. -/
import Derived.Test.YtieoklpgnmbpjaaE22
namespace Go.Proofs.Ytieoklpgnmbpjaa.Gr
open Go.RowKit Dr
open Go.Proofs.YtieoklpgnmbpjaaW.PrintWords (Kd Kd.C Kd.R Kd.M_step Kd.C_below Kd.C_get Kd.R_below Kd.R_reads Kd.R_reads' Kd.R_types Kd.R_step Kd.R_alloc Kd.R_drew Kd.R_lower add_field Kd.R_append Kd.R_bound Kd.R_move Kd.R_mono Kd.R_nil Kd.R_set Kd.R_ne Kd.R_over' Kd.R_typed Kd.C_nil Kd.R_slice Kd.R_append_rows Kd.R_form ReadsRow Kd.C_string Kd.R_append_rows_step)
set_option linter.unusedVariables false
set_option linter.unusedSimpArgs false
set_option maxRecDepth 100000
def fewX (x : List Int × List Int) : List Int × List Int := (x.1.take 200, x.2.take 60)
/-- What holds while a constant's numbers are copied. -/
structure FG (W3 : World) (bs ws : List Int) (d : Nat → Bool) (vs : Nat → Value) (W : World) : Prop where
  bel : Below W3.heap.size W3 W
  d4 : d 8 = true → d 4 = true ∧ d 5 = true
  d9 : d 9 = true → d 8 = true
  d10 : d 10 = true → d 9 = true
  h1 : d 1 = true → d 4 = false → Kd.R (Kd.int .i8) 61 W W3.heap.size (fun _ => True) (vs 1) []
  h4 : d 4 = true → Kd.R (Kd.int .i8) 61 W W3.heap.size (fun _ => True) (vs 4) bs
  h5 : d 5 = true → d 8 = false → Kd.R (Kd.int .i32) 21 W W3.heap.size (fun _ => True) (vs 5) []
  h8 : d 8 = true → Kd.R (Kd.int .i32) 21 W W3.heap.size (fun _ => True) (vs 8) ws
  h9 : d 9 = true → vs 9 = .agg #[vs 4, vs 8]
  h10 : d 10 = true → ∃ g : Nat, vs 10 = .slice (some ⟨g, 0, none⟩) 1 1 ∧ W3.heap.size ≤ g ∧ W.heap[g]? = some (.cells #[vs 4, vs 8] 42 (0, 0))
theorem upD_ne {d : Nat → Bool} {k j : Nat} (h : j ≠ k) : upD d k j = d j := if_neg h
theorem upD_eq {d : Nat → Bool} {k : Nat} : upD d k k = true := if_pos rfl
section
variable {W3 W : World} {bs ws : List Int} {d : Nat → Bool} {vs : Nat → Value}
theorem FG.other (h : FG W3 bs ws d vs W) {k : Nat} (hk : k = 0 ∨ k = 2 ∨ k = 3 ∨ k = 6 ∨ k = 7) (v : Value) : FG W3 bs ws (upD d k) (upd vs k v) W := by
  have n1 : 1 ≠ k := by omega
  have n4 : 4 ≠ k := by omega
  have n5 : 5 ≠ k := by omega
  have n8 : 8 ≠ k := by omega
  have n9 : 9 ≠ k := by omega
  have n10 : 10 ≠ k := by omega
  refine ⟨h.bel, ?_, ?_, ?_, ?_, ?_, ?_, ?_, ?_, ?_⟩ <;> simp only [upD_ne n1, upD_ne n4, upD_ne n5, upD_ne n8, upD_ne n9, upD_ne n10, upd_other _ _ _ n1, upd_other _ _ _ n4, upd_other _ _ _ n5, upd_other _ _ _ n8, upd_other _ _ _ n9, upd_other _ _ _ n10]
  · exact h.d4
  · exact h.d9
  · exact h.d10
  · exact h.h1
  · exact h.h4
  · exact h.h5
  · exact h.h8
  · exact h.h9
  · exact h.h10
theorem FG.a1 (h : FG W3 bs ws d vs W) (hd : d 1 = false) : FG W3 bs ws (upD d 1) (upd vs 1 (.slice (some ⟨W.heap.size, 0, none⟩) 0 0)) (W.alloc (.cells #[] 61)) := by
  refine ⟨h.bel.alloc h.bel.size _, ?_, ?_, ?_, ?_, ?_, ?_, ?_, ?_, ?_⟩ <;> simp only [upD_ne (show 4 ≠ 1 by decide), upD_ne (show 5 ≠ 1 by decide), upD_ne (show 8 ≠ 1 by decide), upD_ne (show 9 ≠ 1 by decide), upD_ne (show 10 ≠ 1 by decide), upD_eq, upd_same, upd_other _ _ _ (show 4 ≠ 1 by decide), upd_other _ _ _ (show 5 ≠ 1 by decide), upd_other _ _ _ (show 8 ≠ 1 by decide), upd_other _ _ _ (show 9 ≠ 1 by decide), upd_other _ _ _ (show 10 ≠ 1 by decide)]
  · exact h.d4
  · exact h.d9
  · exact h.d10
  · exact fun _ _ => R_fresh (k := .i8) (xs := []) (blk_new W (.cells #[] 61)) h.bel.size (by decide)
  · exact fun q => Kd.R_alloc (h.h4 q) _
  · exact fun q1 q2 => Kd.R_alloc (h.h5 q1 q2) _
  · exact fun q => Kd.R_alloc (h.h8 q) _
  · exact h.h9
  · intro q
    obtain ⟨g, k1, k2, k3⟩ := h.h10 q
    exact ⟨g, k1, k2, blk_alloc k3 _⟩
theorem FG.a5 (h : FG W3 bs ws d vs W) (hd : d 5 = false) : FG W3 bs ws (upD d 5) (upd vs 5 (.slice (some ⟨W.heap.size, 0, none⟩) 0 0)) (W.alloc (.cells #[] 21)) := by
  refine ⟨h.bel.alloc h.bel.size _, ?_, ?_, ?_, ?_, ?_, ?_, ?_, ?_, ?_⟩ <;> simp only [upD_ne (show 4 ≠ 5 by decide), upD_ne (show 1 ≠ 5 by decide), upD_ne (show 8 ≠ 5 by decide), upD_ne (show 9 ≠ 5 by decide), upD_ne (show 10 ≠ 5 by decide), upD_eq, upd_same, upd_other _ _ _ (show 4 ≠ 5 by decide), upd_other _ _ _ (show 1 ≠ 5 by decide), upd_other _ _ _ (show 8 ≠ 5 by decide), upd_other _ _ _ (show 9 ≠ 5 by decide), upd_other _ _ _ (show 10 ≠ 5 by decide)]
  · exact fun q => ⟨(h.d4 q).1, trivial⟩
  · exact h.d9
  · exact h.d10
  · exact fun q1 q2 => Kd.R_alloc (h.h1 q1 q2) _
  · exact fun q => Kd.R_alloc (h.h4 q) _
  · exact fun _ _ => R_fresh (k := .i32) (xs := []) (blk_new W (.cells #[] 21)) h.bel.size (by decide)
  · exact fun q => Kd.R_alloc (h.h8 q) _
  · exact h.h9
  · intro q
    obtain ⟨g, k1, k2, k3⟩ := h.h10 q
    exact ⟨g, k1, k2, blk_alloc k3 _⟩
theorem FG.s4 (h : FG W3 bs ws d vs W) (hd : d 4 = false) (h1 : d 1 = true) {v1 : Value} {W1 : World} (hR : Kd.R (Kd.int .i8) 61 W1 W3.heap.size (fun _ => True) v1 bs) (hB : Below W3.heap.size W3 W1) (hg : W.grownBy W1 (vs 1).ownBlock) : FG W3 bs ws (upD d 4) (upd vs 4 v1) W1 := by
  have d8 : d 8 = false := by cases q : d 8; rfl; (have := (h.d4 q).1; rw [hd] at this; cases this)
  have d9 : d 9 = false := by cases q : d 9; rfl; (have := h.d9 q; rw [d8] at this; cases this)
  have d10 : d 10 = false := by cases q : d 10; rfl; (have := h.d10 q; rw [d9] at this; cases this)
  have hT := Kd.R_typed (h.h1 h1 hd)
  refine ⟨hB, ?_, ?_, ?_, ?_, ?_, ?_, ?_, ?_, ?_⟩ <;> simp only [upD_ne (show 5 ≠ 4 by decide), upD_ne (show 1 ≠ 4 by decide), upD_ne (show 8 ≠ 4 by decide), upD_ne (show 9 ≠ 4 by decide), upD_ne (show 10 ≠ 4 by decide), upD_eq, upd_same, upd_other _ _ _ (show 5 ≠ 4 by decide), upd_other _ _ _ (show 1 ≠ 4 by decide), upd_other _ _ _ (show 8 ≠ 4 by decide), upd_other _ _ _ (show 9 ≠ 4 by decide), upd_other _ _ _ (show 10 ≠ 4 by decide), d8, d9, d10]
  · exact fun q => by cases q
  · exact fun q => q
  · exact fun q => q
  · exact fun _ q => by cases q
  · exact fun _ => hR
  · exact fun q1 q2 => Kd.R_over' (h.h5 q1 d8) hT (by decide) hg
  · exact fun q => by cases q
  · exact fun q => by cases q
  · exact fun q => by cases q
theorem FG.s8 (h : FG W3 bs ws d vs W) (hd : d 8 = false) (h5 : d 5 = true) (h4 : d 4 = true) {v1 : Value} {W1 : World} (hR : Kd.R (Kd.int .i32) 21 W1 W3.heap.size (fun _ => True) v1 ws) (hB : Below W3.heap.size W3 W1) (hg : W.grownBy W1 (vs 5).ownBlock) : FG W3 bs ws (upD d 8) (upd vs 8 v1) W1 := by
  have d9 : d 9 = false := by cases q : d 9; rfl; (have := h.d9 q; rw [hd] at this; cases this)
  have d10 : d 10 = false := by cases q : d 10; rfl; (have := h.d10 q; rw [d9] at this; cases this)
  have hT := Kd.R_typed (h.h5 h5 hd)
  refine ⟨hB, ?_, ?_, ?_, ?_, ?_, ?_, ?_, ?_, ?_⟩ <;> simp only [upD_ne (show 5 ≠ 8 by decide), upD_ne (show 1 ≠ 8 by decide), upD_ne (show 4 ≠ 8 by decide), upD_ne (show 9 ≠ 8 by decide), upD_ne (show 10 ≠ 8 by decide), upD_eq, upd_same, upd_other _ _ _ (show 5 ≠ 8 by decide), upd_other _ _ _ (show 1 ≠ 8 by decide), upd_other _ _ _ (show 4 ≠ 8 by decide), upd_other _ _ _ (show 9 ≠ 8 by decide), upd_other _ _ _ (show 10 ≠ 8 by decide), d9, d10, h4, h5]
  · exact fun _ => ⟨trivial, trivial⟩
  · exact fun _ => trivial
  · exact fun q => q
  · exact fun _ q => by cases q
  · exact fun _ => Kd.R_over' (h.h4 h4) hT (by decide) hg
  · exact fun _ q => by cases q
  · exact fun _ => hR
  · exact fun q => by cases q
  · exact fun q => by cases q
theorem FG.s9 (h : FG W3 bs ws d vs W) (hd : d 9 = false) (h8 : d 8 = true) : FG W3 bs ws (upD d 9) (upd vs 9 (.agg #[vs 4, vs 8])) W := by
  have d10 : d 10 = false := by cases q : d 10; rfl; (have := h.d10 q; rw [hd] at this; cases this)
  refine ⟨h.bel, ?_, ?_, ?_, ?_, ?_, ?_, ?_, ?_, ?_⟩ <;> simp only [upD_ne (show 5 ≠ 9 by decide), upD_ne (show 1 ≠ 9 by decide), upD_ne (show 4 ≠ 9 by decide), upD_ne (show 8 ≠ 9 by decide), upD_ne (show 10 ≠ 9 by decide), upD_eq, upd_same, upd_other _ _ _ (show 5 ≠ 9 by decide), upd_other _ _ _ (show 1 ≠ 9 by decide), upd_other _ _ _ (show 4 ≠ 9 by decide), upd_other _ _ _ (show 8 ≠ 9 by decide), upd_other _ _ _ (show 10 ≠ 9 by decide), d10]
  · exact h.d4
  · exact fun _ => h8
  · exact fun _ => trivial
  · exact h.h1
  · exact h.h4
  · exact h.h5
  · exact h.h8
  · exact fun _ => trivial
  · exact fun q => by cases q
theorem FG.s10 (h : FG W3 bs ws d vs W) (h9 : d 9 = true) : FG W3 bs ws (upD d 10) (upd vs 10 (.slice (some ⟨W.heap.size, 0, none⟩) 1 1)) (W.alloc (.cells #[vs 4, vs 8] 42)) := by
  refine ⟨h.bel.alloc h.bel.size _, ?_, ?_, ?_, ?_, ?_, ?_, ?_, ?_, ?_⟩ <;> simp only [upD_ne (show 5 ≠ 10 by decide), upD_ne (show 1 ≠ 10 by decide), upD_ne (show 4 ≠ 10 by decide), upD_ne (show 8 ≠ 10 by decide), upD_ne (show 9 ≠ 10 by decide), upD_eq, upd_same, upd_other _ _ _ (show 5 ≠ 10 by decide), upd_other _ _ _ (show 1 ≠ 10 by decide), upd_other _ _ _ (show 4 ≠ 10 by decide), upd_other _ _ _ (show 8 ≠ 10 by decide), upd_other _ _ _ (show 9 ≠ 10 by decide)]
  · exact h.d4
  · exact h.d9
  · exact fun _ => h9
  · exact fun q1 q2 => Kd.R_alloc (h.h1 q1 q2) _
  · exact fun q => Kd.R_alloc (h.h4 q) _
  · exact fun q1 q2 => Kd.R_alloc (h.h5 q1 q2) _
  · exact fun q => Kd.R_alloc (h.h8 q) _
  · exact h.h9
  · exact fun _ => ⟨W.heap.size, rfl, h.bel.size, blk_new _ _⟩
end
end Go.Proofs.Ytieoklpgnmbpjaa.Gr
