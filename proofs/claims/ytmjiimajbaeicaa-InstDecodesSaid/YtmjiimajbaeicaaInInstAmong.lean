/- inst_among: a plain function with the same answers as the program's, and the proof of it, as a program has written them. -/
import Derived.Test.YtmjiimajbaeicaaInBase
namespace Go.Proofs.Ytmjiimajbaeicaa.PInst
open Go.RowKit Go.Proofs.YtmjiimajbaeicaaW.PrintWords Go.Proofs.YtmjiimajbaeicaaW.PrintLast Go.Proofs.YtmjiimajbaeicaaW.PrintMore
attribute [local go_sem] max2_int min2_int max_two min_two max_three min_three max_four min_four   -- for this text's walks alone
set_option linter.unusedVariables false
set_option linter.unusedSimpArgs false


/-! ### inst_among: function 20 -/
def inst_among.f (a0 : Int) : Option (Int × Int) := if (Go.bits .and .u32 a0 127) = 51 then (some (1, 18)) else (if (Go.bits .and .u32 a0 127) = 19 then (some (19, 27)) else (if (Go.bits .and .u32 a0 127) = 3 then (some (28, 32)) else (if (Go.bits .and .u32 a0 127) = 35 then (some (33, 35)) else (if (Go.bits .and .u32 a0 127) = 99 then (some (36, 41)) else (if (Go.bits .and .u32 a0 127) = 55 then (some (42, 42)) else (if (Go.bits .and .u32 a0 127) = 23 then (some (43, 43)) else (if (Go.bits .and .u32 a0 127) = 111 then (some (44, 44)) else (if (Go.bits .and .u32 a0 127) = 103 then (some (45, 45)) else (if (Go.bits .and .u32 a0 127) = 15 then (some (46, 46)) else (some (0, 0)))))))))))
set_option maxHeartbeats 8000000 in
set_option maxRecDepth 100000 in
theorem inst_among.calls (a0 : Int) (r1 : Int) (r2 : Int) (w : World) (h : inst_among.f a0 = some (r1, r2)) :
    Calls Try.prog 20 #[.int .u32 a0] w fun e w' => e = .returned (.tuple #[.int .i64 r1, .int .i64 r2]) ∧ Drawn0 w w' := by
  have H : (if (Go.bits .and .u32 a0 127) = 51 then (some (1, 18)) else (if (Go.bits .and .u32 a0 127) = 19 then (some (19, 27)) else (if (Go.bits .and .u32 a0 127) = 3 then (some (28, 32)) else (if (Go.bits .and .u32 a0 127) = 35 then (some (33, 35)) else (if (Go.bits .and .u32 a0 127) = 99 then (some (36, 41)) else (if (Go.bits .and .u32 a0 127) = 55 then (some (42, 42)) else (if (Go.bits .and .u32 a0 127) = 23 then (some (43, 43)) else (if (Go.bits .and .u32 a0 127) = 111 then (some (44, 44)) else (if (Go.bits .and .u32 a0 127) = 103 then (some (45, 45)) else (if (Go.bits .and .u32 a0 127) = 15 then (some (46, 46)) else (some (0, 0)))))))))))) = some (r1, r2) := h
  clear h
  by_cases c2 : (Go.bits .and .u32 a0 127) = 51
  · rw [if_pos c2] at H
    have c2b0 : ((Go.bits .and .u32 a0 127) == 51) = true := beq_iff_eq.mpr c2
    have c2b1 : ((Go.bits .and .u32 a0 127) != 51) = false := bne_eq_false_iff_eq.mpr c2
    clear c2
    simp only [Option.some.injEq, Prod.mk.injEq] at H
    obtain ⟨rfl, rfl⟩ := H
    go_enter Try.func20, Try.ntmps20
    go_wp2
    go_ret2
    exact ⟨by first | rfl | (simp; done) | (simp [*]; done), by repeat (first | exact Drawn0.refl _ | apply Drawn0.step)⟩
  · rw [if_neg c2] at H
    have c2b0 : ((Go.bits .and .u32 a0 127) == 51) = false := beq_eq_false_iff_ne.mpr c2
    have c2b1 : ((Go.bits .and .u32 a0 127) != 51) = true := bne_iff_ne.mpr c2
    by_cases c3 : (Go.bits .and .u32 a0 127) = 19
    · rw [if_pos c3] at H
      have c3b0 : ((Go.bits .and .u32 a0 127) == 19) = true := beq_iff_eq.mpr c3
      have c3b1 : ((Go.bits .and .u32 a0 127) != 19) = false := bne_eq_false_iff_eq.mpr c3
      clear c3
      simp only [Option.some.injEq, Prod.mk.injEq] at H
      obtain ⟨rfl, rfl⟩ := H
      go_enter Try.func20, Try.ntmps20
      go_wp2
      go_ret2
      exact ⟨by first | rfl | (simp; done) | (simp [*]; done), by repeat (first | exact Drawn0.refl _ | apply Drawn0.step)⟩
    · rw [if_neg c3] at H
      have c3b0 : ((Go.bits .and .u32 a0 127) == 19) = false := beq_eq_false_iff_ne.mpr c3
      have c3b1 : ((Go.bits .and .u32 a0 127) != 19) = true := bne_iff_ne.mpr c3
      by_cases c4 : (Go.bits .and .u32 a0 127) = 3
      · rw [if_pos c4] at H
        have c4b0 : ((Go.bits .and .u32 a0 127) == 3) = true := beq_iff_eq.mpr c4
        have c4b1 : ((Go.bits .and .u32 a0 127) != 3) = false := bne_eq_false_iff_eq.mpr c4
        clear c4
        simp only [Option.some.injEq, Prod.mk.injEq] at H
        obtain ⟨rfl, rfl⟩ := H
        go_enter Try.func20, Try.ntmps20
        go_wp2
        go_ret2
        exact ⟨by first | rfl | (simp; done) | (simp [*]; done), by repeat (first | exact Drawn0.refl _ | apply Drawn0.step)⟩
      · rw [if_neg c4] at H
        have c4b0 : ((Go.bits .and .u32 a0 127) == 3) = false := beq_eq_false_iff_ne.mpr c4
        have c4b1 : ((Go.bits .and .u32 a0 127) != 3) = true := bne_iff_ne.mpr c4
        by_cases c5 : (Go.bits .and .u32 a0 127) = 35
        · rw [if_pos c5] at H
          have c5b0 : ((Go.bits .and .u32 a0 127) == 35) = true := beq_iff_eq.mpr c5
          have c5b1 : ((Go.bits .and .u32 a0 127) != 35) = false := bne_eq_false_iff_eq.mpr c5
          clear c5
          simp only [Option.some.injEq, Prod.mk.injEq] at H
          obtain ⟨rfl, rfl⟩ := H
          go_enter Try.func20, Try.ntmps20
          go_wp2
          go_ret2
          exact ⟨by first | rfl | (simp; done) | (simp [*]; done), by repeat (first | exact Drawn0.refl _ | apply Drawn0.step)⟩
        · rw [if_neg c5] at H
          have c5b0 : ((Go.bits .and .u32 a0 127) == 35) = false := beq_eq_false_iff_ne.mpr c5
          have c5b1 : ((Go.bits .and .u32 a0 127) != 35) = true := bne_iff_ne.mpr c5
          by_cases c6 : (Go.bits .and .u32 a0 127) = 99
          · rw [if_pos c6] at H
            have c6b0 : ((Go.bits .and .u32 a0 127) == 99) = true := beq_iff_eq.mpr c6
            have c6b1 : ((Go.bits .and .u32 a0 127) != 99) = false := bne_eq_false_iff_eq.mpr c6
            clear c6
            simp only [Option.some.injEq, Prod.mk.injEq] at H
            obtain ⟨rfl, rfl⟩ := H
            go_enter Try.func20, Try.ntmps20
            go_wp2
            go_ret2
            exact ⟨by first | rfl | (simp; done) | (simp [*]; done), by repeat (first | exact Drawn0.refl _ | apply Drawn0.step)⟩
          · rw [if_neg c6] at H
            have c6b0 : ((Go.bits .and .u32 a0 127) == 99) = false := beq_eq_false_iff_ne.mpr c6
            have c6b1 : ((Go.bits .and .u32 a0 127) != 99) = true := bne_iff_ne.mpr c6
            by_cases c7 : (Go.bits .and .u32 a0 127) = 55
            · rw [if_pos c7] at H
              have c7b0 : ((Go.bits .and .u32 a0 127) == 55) = true := beq_iff_eq.mpr c7
              have c7b1 : ((Go.bits .and .u32 a0 127) != 55) = false := bne_eq_false_iff_eq.mpr c7
              clear c7
              simp only [Option.some.injEq, Prod.mk.injEq] at H
              obtain ⟨rfl, rfl⟩ := H
              go_enter Try.func20, Try.ntmps20
              go_wp2
              go_ret2
              exact ⟨by first | rfl | (simp; done) | (simp [*]; done), by repeat (first | exact Drawn0.refl _ | apply Drawn0.step)⟩
            · rw [if_neg c7] at H
              have c7b0 : ((Go.bits .and .u32 a0 127) == 55) = false := beq_eq_false_iff_ne.mpr c7
              have c7b1 : ((Go.bits .and .u32 a0 127) != 55) = true := bne_iff_ne.mpr c7
              by_cases c8 : (Go.bits .and .u32 a0 127) = 23
              · rw [if_pos c8] at H
                have c8b0 : ((Go.bits .and .u32 a0 127) == 23) = true := beq_iff_eq.mpr c8
                have c8b1 : ((Go.bits .and .u32 a0 127) != 23) = false := bne_eq_false_iff_eq.mpr c8
                clear c8
                simp only [Option.some.injEq, Prod.mk.injEq] at H
                obtain ⟨rfl, rfl⟩ := H
                go_enter Try.func20, Try.ntmps20
                go_wp2
                go_ret2
                exact ⟨by first | rfl | (simp; done) | (simp [*]; done), by repeat (first | exact Drawn0.refl _ | apply Drawn0.step)⟩
              · rw [if_neg c8] at H
                have c8b0 : ((Go.bits .and .u32 a0 127) == 23) = false := beq_eq_false_iff_ne.mpr c8
                have c8b1 : ((Go.bits .and .u32 a0 127) != 23) = true := bne_iff_ne.mpr c8
                by_cases c9 : (Go.bits .and .u32 a0 127) = 111
                · rw [if_pos c9] at H
                  have c9b0 : ((Go.bits .and .u32 a0 127) == 111) = true := beq_iff_eq.mpr c9
                  have c9b1 : ((Go.bits .and .u32 a0 127) != 111) = false := bne_eq_false_iff_eq.mpr c9
                  clear c9
                  simp only [Option.some.injEq, Prod.mk.injEq] at H
                  obtain ⟨rfl, rfl⟩ := H
                  go_enter Try.func20, Try.ntmps20
                  go_wp2
                  go_ret2
                  exact ⟨by first | rfl | (simp; done) | (simp [*]; done), by repeat (first | exact Drawn0.refl _ | apply Drawn0.step)⟩
                · rw [if_neg c9] at H
                  have c9b0 : ((Go.bits .and .u32 a0 127) == 111) = false := beq_eq_false_iff_ne.mpr c9
                  have c9b1 : ((Go.bits .and .u32 a0 127) != 111) = true := bne_iff_ne.mpr c9
                  by_cases c10 : (Go.bits .and .u32 a0 127) = 103
                  · rw [if_pos c10] at H
                    have c10b0 : ((Go.bits .and .u32 a0 127) == 103) = true := beq_iff_eq.mpr c10
                    have c10b1 : ((Go.bits .and .u32 a0 127) != 103) = false := bne_eq_false_iff_eq.mpr c10
                    clear c10
                    simp only [Option.some.injEq, Prod.mk.injEq] at H
                    obtain ⟨rfl, rfl⟩ := H
                    go_enter Try.func20, Try.ntmps20
                    go_wp2
                    go_ret2
                    exact ⟨by first | rfl | (simp; done) | (simp [*]; done), by repeat (first | exact Drawn0.refl _ | apply Drawn0.step)⟩
                  · rw [if_neg c10] at H
                    have c10b0 : ((Go.bits .and .u32 a0 127) == 103) = false := beq_eq_false_iff_ne.mpr c10
                    have c10b1 : ((Go.bits .and .u32 a0 127) != 103) = true := bne_iff_ne.mpr c10
                    by_cases c11 : (Go.bits .and .u32 a0 127) = 15
                    · rw [if_pos c11] at H
                      have c11b0 : ((Go.bits .and .u32 a0 127) == 15) = true := beq_iff_eq.mpr c11
                      have c11b1 : ((Go.bits .and .u32 a0 127) != 15) = false := bne_eq_false_iff_eq.mpr c11
                      clear c11
                      simp only [Option.some.injEq, Prod.mk.injEq] at H
                      obtain ⟨rfl, rfl⟩ := H
                      go_enter Try.func20, Try.ntmps20
                      go_wp2
                      go_ret2
                      exact ⟨by first | rfl | (simp; done) | (simp [*]; done), by repeat (first | exact Drawn0.refl _ | apply Drawn0.step)⟩
                    · rw [if_neg c11] at H
                      have c11b0 : ((Go.bits .and .u32 a0 127) == 15) = false := beq_eq_false_iff_ne.mpr c11
                      have c11b1 : ((Go.bits .and .u32 a0 127) != 15) = true := bne_iff_ne.mpr c11
                      simp only [Option.some.injEq, Prod.mk.injEq] at H
                      obtain ⟨rfl, rfl⟩ := H
                      go_enter Try.func20, Try.ntmps20
                      go_wp2
                      go_ret2
                      exact ⟨by first | rfl | (simp; done) | (simp [*]; done), by repeat (first | exact Drawn0.refl _ | apply Drawn0.step)⟩
end Go.Proofs.Ytmjiimajbaeicaa.PInst
