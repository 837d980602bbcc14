/- The reader: how many there are; a list of numbers. -/
import Derived.Test.YtieoklpgnmbpjaaE2
namespace Go.Proofs.Ytieoklpgnmbpjaa.Gr
open Go.RowKit Dr
open Go.Proofs.YtieoklpgnmbpjaaW.PrintWords (Kd Kd.C Kd.R Kd.C_below Kd.C_get Kd.R_below Kd.R_reads Kd.R_reads' Kd.R_types Kd.R_step Kd.R_alloc Kd.R_drew Kd.R_lower add_field)
set_option linter.unusedVariables false
set_option linter.unusedSimpArgs false
set_option maxRecDepth 100000
theorem num_ok {s : List Int × Int} (h : okB s.1) : okB (num s).2.1 := by
  unfold num
  split
  · exact h
  · exact fun x hx => h x (List.mem_of_mem_drop hx)
def many (most : Int) (s : List Int × Int) : Int × (List Int × Int) := if (num s).1 < 0 ∨ most < (num s).1 then (0, ((num s).2.1, fails 2 (num s).2.2)) else num s
theorem many_ok {most : Int} {s : List Int × Int} (h : okB s.1) : okB (many most s).2.1 := by
  unfold many
  split
  · exact num_ok h
  · exact num_ok h
set_option maxHeartbeats 8000000 in
theorem many_is (b g : Nat) (most : Int) (s : List Int × Int) (w : World) (hb : b ≤ g) (ho : okB s.1) (h : RD w b g s) :
    Calls Try.prog 20 #[.pointer (some ⟨g, 0, none⟩), .int .i64 most] w fun e w' => e = .returned (.int .i64 (many most s).1) ∧ RD w' b g (many most s).2 ∧ w.grownBy w' (some g) := by
  have H := Lib.hid h
  clear h
  by_cases h0 : (num s).1 < 0
  · have hd : decide ((num s).1 < 0) = true := decide_eq_true h0
    have em : many most s = (0, ((num s).2.1, fails 2 (num s).2.2)) := by unfold many; rw [if_pos (.inl h0)]
    rw [em]
    clear em h0
    generalize hn : num s = r at *
    go_enter Try.func20, Try.ntmps20
    go_wp2_with (first | (go_at_call 21; refine (number_is b g s _ hb ho H.out).mono ?_; rintro e w1 ⟨rfl, hR, hg⟩; rw [hn] at hR ⊢) | (go_at_call 24; refine (fails_is b g r.2 2 _ hb hR).mono ?_; rintro e w2 ⟨rfl, hR2, hg2⟩))
    go_wp2
    go_ret
    exact ⟨rfl, hR2, grown_trans hg hg2⟩
  · have hd : decide ((num s).1 < 0) = false := decide_eq_false h0
    by_cases h1 : most < (num s).1
    · have hd1 : decide (most < (num s).1) = true := decide_eq_true h1
      have em : many most s = (0, ((num s).2.1, fails 2 (num s).2.2)) := by unfold many; rw [if_pos (.inr h1)]
      rw [em]
      clear em h0 h1
      generalize hn : num s = r at *
      go_enter Try.func20, Try.ntmps20
      go_wp2_with (first | (go_at_call 21; refine (number_is b g s _ hb ho H.out).mono ?_; rintro e w1 ⟨rfl, hR, hg⟩; rw [hn] at hR ⊢) | (go_at_call 24; refine (fails_is b g r.2 2 _ hb hR).mono ?_; rintro e w2 ⟨rfl, hR2, hg2⟩))
      go_wp2
      go_ret
      exact ⟨rfl, hR2, grown_trans hg hg2⟩
    · have hd1 : decide (most < (num s).1) = false := decide_eq_false h1
      have em : many most s = num s := by unfold many; rw [if_neg (fun h => h.elim h0 h1)]
      rw [em]
      clear em h0 h1
      generalize hn : num s = r at *
      go_enter Try.func20, Try.ntmps20
      go_wp2_with (first | (go_at_call 21; refine (number_is b g s _ hb ho H.out).mono ?_; rintro e w1 ⟨rfl, hR, hg⟩; rw [hn] at hR ⊢) | (go_at_call 24; refine (fails_is b g r.2 2 _ hb hR).mono ?_; rintro e w2 ⟨rfl, hR2, hg2⟩))
      go_wp2
      go_ret
      exact ⟨rfl, hR, hg⟩
end Go.Proofs.Ytieoklpgnmbpjaa.Gr
