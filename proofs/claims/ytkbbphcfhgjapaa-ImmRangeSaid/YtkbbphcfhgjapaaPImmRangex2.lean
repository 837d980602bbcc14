-- PRINTED BY print.sh 35421559b90ae4d0a3588c463048766b98c2df88dd9212a6774a882060cdf62d: not written by this session
import Derived.Test.YtkbbphcfhgjapaaPImmRangex0
import Derived.Test.YtkbbphcfhgjapaaPImmRangex1
namespace Go.Proofs.Ytkbbphcfhgjapaa.PImmRange
open Go.RowKit Go.Proofs.YtkbbphcfhgjapaaW.PrintWords Go.Proofs.YtkbbphcfhgjapaaW.PrintLast Go.Proofs.YtkbbphcfhgjapaaW.PrintMore
attribute [local go_sem] max2_int min2_int max_two min_two max_three min_three max_four min_four   -- for this text's walks alone
set_option linter.unusedVariables false
set_option linter.unusedSimpArgs false

/-! ### pintlelaw02_ImmRange: function 10 -/
mutual
def pintlelaw02_ImmRange.j0 : Nat → Int → Int → Bool → Bool → Option (Bool)
  | 0, _, _, _, _ => none
  | k + 1, x1, x5, x7, x8 => if x5 = 3 then (if x1 ≥ (-4096) then (if x1 ≤ 4095 then (pintlelaw02_ImmRange.j1 k x1 x5 x7 ((Int.tmod x1 2) == 0)) else (pintlelaw02_ImmRange.j1 k x1 x5 x7 false)) else (pintlelaw02_ImmRange.j1 k x1 x5 x7 false)) else (pintlelaw02_ImmRange.j1 k x1 x5 x7 x8)
def pintlelaw02_ImmRange.j1 : Nat → Int → Int → Bool → Bool → Option (Bool)
  | 0, _, _, _, _ => none
  | k + 1, x1, x5, x7, x8 => if x5 = 4 then (if x5 = 5 then (if x1 ≥ (-1048576) then (if x1 ≤ 1048575 then (if (x7 == ((Int.tmod x1 2) == 0)) = true then ((pintlelaw02_lives.f k).bind fun t139 => (some t139)) else (some false)) else (if (x7 == false) = true then ((pintlelaw02_lives.f k).bind fun t140 => (some t140)) else (some false))) else (if (x7 == false) = true then ((pintlelaw02_lives.f k).bind fun t141 => (some t141)) else (some false))) else (if (x7 == ((Int.tmod x1 4096) == 0)) = true then ((pintlelaw02_lives.f k).bind fun t142 => (some t142)) else (some false))) else (if x5 = 5 then (if x1 ≥ (-1048576) then (if x1 ≤ 1048575 then (if (x7 == ((Int.tmod x1 2) == 0)) = true then ((pintlelaw02_lives.f k).bind fun t143 => (some t143)) else (some false)) else (if (x7 == false) = true then ((pintlelaw02_lives.f k).bind fun t144 => (some t144)) else (some false))) else (if (x7 == false) = true then ((pintlelaw02_lives.f k).bind fun t145 => (some t145)) else (some false))) else (if (x7 == x8) = true then ((pintlelaw02_lives.f k).bind fun t146 => (some t146)) else (some false)))
end
def pintlelaw02_ImmRange.f (k : Nat) (a0 : Int) (a1 : Int) : Option (Bool) := (imm_Put.f k (wrap64 (1 + (wrap64 (Int.tmod a0 5)))) a1).bind fun bt137 => (if a1 ≥ (-2048) then (pintlelaw02_ImmRange.j0 k a1 (wrap64 (1 + (wrap64 (Int.tmod a0 5)))) bt137.2 (decide (a1 ≤ 2047))) else (pintlelaw02_ImmRange.j0 k a1 (wrap64 (1 + (wrap64 (Int.tmod a0 5)))) bt137.2 false))
theorem pintlelaw02_ImmRange.mono_l : ∀ k, (∀ y0 y1 y2 y3, LeO (pintlelaw02_ImmRange.j0 k y0 y1 y2 y3) (pintlelaw02_ImmRange.j0 (k + 1) y0 y1 y2 y3)) ∧ (∀ y0 y1 y2 y3, LeO (pintlelaw02_ImmRange.j1 k y0 y1 y2 y3) (pintlelaw02_ImmRange.j1 (k + 1) y0 y1 y2 y3))
  | 0 => ⟨fun _ _ _ _ r h => by simp [pintlelaw02_ImmRange.j0] at h, fun _ _ _ _ r h => by simp [pintlelaw02_ImmRange.j1] at h⟩
  | k + 1 => by
    obtain ⟨ih0, ih1⟩ := pintlelaw02_ImmRange.mono_l k
    refine ⟨?_, ?_⟩
    · intro y0 y1 y2 y3
      unfold pintlelaw02_ImmRange.j0
      repeat' first
      | (with_reducible exact ih0 _ _ _ _)
      | (with_reducible exact ih1 _ _ _ _)
      | (with_reducible exact imm_Put.mono _ _ _)
      | (with_reducible exact pintlelaw02_lives.mono _)
      | (with_reducible exact LeO.refl _)
      | (with_reducible exact LeO.none _)
      | (with_reducible refine LeO.ite ?_ ?_)
      | (with_reducible refine LeO.bind ?_ (fun _ => ?_))
      | exact ih0 _ _ _ _
      | exact ih1 _ _ _ _
      | exact imm_Put.mono _ _ _
      | exact pintlelaw02_lives.mono _
      | exact LeO.none _
      | refine LeO.ite ?_ ?_
      | refine LeO.bind ?_ (fun _ => ?_)
    · intro y0 y1 y2 y3
      unfold pintlelaw02_ImmRange.j1
      repeat' first
      | (with_reducible exact ih0 _ _ _ _)
      | (with_reducible exact ih1 _ _ _ _)
      | (with_reducible exact imm_Put.mono _ _ _)
      | (with_reducible exact pintlelaw02_lives.mono _)
      | (with_reducible exact LeO.refl _)
      | (with_reducible exact LeO.none _)
      | (with_reducible refine LeO.ite ?_ ?_)
      | (with_reducible refine LeO.bind ?_ (fun _ => ?_))
      | exact ih0 _ _ _ _
      | exact ih1 _ _ _ _
      | exact imm_Put.mono _ _ _
      | exact pintlelaw02_lives.mono _
      | exact LeO.none _
      | refine LeO.ite ?_ ?_
      | refine LeO.bind ?_ (fun _ => ?_)
theorem pintlelaw02_ImmRange.mono : ∀ a0 a1 k, LeO (pintlelaw02_ImmRange.f k a0 a1) (pintlelaw02_ImmRange.f (k + 1) a0 a1) := by
  intro a0 a1 k
  obtain ⟨ih0, ih1⟩ := pintlelaw02_ImmRange.mono_l k
  unfold pintlelaw02_ImmRange.f
  repeat' first
      | (with_reducible exact ih0 _ _ _ _)
      | (with_reducible exact ih1 _ _ _ _)
      | (with_reducible exact imm_Put.mono _ _ _)
      | (with_reducible exact pintlelaw02_lives.mono _)
      | (with_reducible exact LeO.refl _)
      | (with_reducible exact LeO.none _)
      | (with_reducible refine LeO.ite ?_ ?_)
      | (with_reducible refine LeO.bind ?_ (fun _ => ?_))
      | exact ih0 _ _ _ _
      | exact ih1 _ _ _ _
      | exact imm_Put.mono _ _ _
      | exact pintlelaw02_lives.mono _
      | exact LeO.none _
      | refine LeO.ite ?_ ?_
      | refine LeO.bind ?_ (fun _ => ?_)
set_option maxHeartbeats 8000000 in
set_option maxRecDepth 100000 in
theorem pintlelaw02_ImmRange.calls (k : Nat) (a0 : Int) (a1 : Int) (r : Bool) (w : World) (h : pintlelaw02_ImmRange.f k a0 a1 = some r) :
    Calls Try.prog 10 #[.int .u8 a0, .int .i32 a1] w fun e w' => e = .returned (.bool r) ∧ Below w.heap.size w w' := by
  have HB := Aside0.mk (Below.refl w.heap.size w)
  have H : ((imm_Put.f k (wrap64 (1 + (wrap64 (Int.tmod a0 5)))) a1).bind fun bt137 => (if a1 ≥ (-2048) then (pintlelaw02_ImmRange.j0 k a1 (wrap64 (1 + (wrap64 (Int.tmod a0 5)))) bt137.2 (decide (a1 ≤ 2047))) else (pintlelaw02_ImmRange.j0 k a1 (wrap64 (1 + (wrap64 (Int.tmod a0 5)))) bt137.2 false))) = some r := h
  clear h
  replace H := Option.bind_eq_some_iff.mp H
  obtain ⟨⟨t137, t138⟩, A30, H⟩ := H
  replace H : (if a1 ≥ (-2048) then (pintlelaw02_ImmRange.j0 k a1 (wrap64 (1 + (wrap64 (Int.tmod a0 5)))) t138 (decide (a1 ≤ 2047))) else (pintlelaw02_ImmRange.j0 k a1 (wrap64 (1 + (wrap64 (Int.tmod a0 5)))) t138 false)) = some r := H
  have A3 := Aside0.mk A30
  clear A30
  have HC4 := Aside0.mk H
  clear H
  go_enter Try.func10, Try.ntmps10
  go_upto_region 3 with (first | ((with_reducible refine gate_callee (f := 23) rfl ?_); refine goesL_ (some 16) rfl rfl Try.func23 (by kernel_rfl) rfl #[.int .i64 (wrap64 (1 + (wrap64 (Int.tmod a0 5)))), .int .i32 a1] rfl (by (try simp only [List.map_toArray, List.map_cons, List.map_nil]); first | done | rfl | (simp only [List.length_drop, List.length_take]; rfl)) ?_; (with_reducible refine (imm_Put.calls k (wrap64 (1 + (wrap64 (Int.tmod a0 5)))) a1 t137 t138 _ A3.out).mono ?_); rintro e w5 ⟨rfl, hb⟩; refine ⟨_, rfl, ?_⟩; have n0_ := Aside0.mk (below_step (by repeat (first | (with_reducible first | exact HB.out | apply below_alloc | apply pw_below_drewN | apply below_drew1) | exact HB.out)) hb); clear HB; have HB := n0_; clear n0_; (try clear hb); (try clear hb2); (try clear hk); (try clear hi)))
  (try simp only [Act.put, List.setIfInBounds_toArray, List.set_cons_zero, List.set_cons_succ])
  go_cut [8] (fun v8 wc => ∃ (kq : Nat) (x8_3 : Bool), v8 = .bool x8_3 ∧ Aside0 (pintlelaw02_ImmRange.j0 kq a1 (wrap64 (1 + (wrap64 (Int.tmod a0 5)))) t138 x8_3 = some r) ∧ Aside0 (kq ≤ k) ∧ Aside0 (Below w.heap.size w wc))
  case first =>
    have H := HC4.out
    clear HC4
    by_cases c6 : a1 ≥ (-2048)
    · rw [if_pos c6] at H
      have c6b0 : decide ((-2048) ≤ a1) = true := decide_eq_true c6
      clear c6
      (first | rw [c6b0] | (simp only [i64_w, i32_w]; rw [c6b0]) | skip)
      have H' := Aside0.mk H
      clear H
      go_wp2
      go_meet
      case rel => exact ⟨_, (decide (a1 ≤ 2047)), (by first | rfl | (simp; done) | (simp [*]; done)), H', ⟨by first | omega | exact Nat.le_refl _⟩, ⟨by repeat (first | (with_reducible first | exact HB.out | apply below_alloc | apply pw_below_drewN | apply below_drew1) | exact HB.out)⟩⟩
    · rw [if_neg c6] at H
      have c6b0 : decide ((-2048) ≤ a1) = false := decide_eq_false c6
      clear c6
      (first | rw [c6b0] | (simp only [i64_w, i32_w]; rw [c6b0]) | skip)
      have H' := Aside0.mk H
      clear H
      go_wp2
      go_meet
      case rel => exact ⟨_, (false), (by first | rfl | (simp; done) | (simp [*]; done)), H', ⟨by first | omega | exact Nat.le_refl _⟩, ⟨by repeat (first | (with_reducible first | exact HB.out | apply below_alloc | apply pw_below_drewN | apply below_drew1) | exact HB.out)⟩⟩
  case rest =>
    clear HC4
    try clear c1
    try clear c2
    try clear p2
    try clear c6
    try clear c6b0
    try clear p6
    obtain ⟨kq, x8_3, rfl, HA, HJ3, HB⟩ := hcut
    cases kq with
    | zero => exact absurd HA.out (by simp [pintlelaw02_ImmRange.j0])
    | succ kj3 =>
      have H := HA.out
      clear HA
      simp only [pintlelaw02_ImmRange.j0] at H
      have HC7 := Aside0.mk H
      clear H
      go_upto_if 26 with (fail)
      go_cut [8] (fun v8 wc => ∃ (kq : Nat) (x8_6 : Bool), v8 = .bool x8_6 ∧ Aside0 (pintlelaw02_ImmRange.j1 kq a1 (wrap64 (1 + (wrap64 (Int.tmod a0 5)))) t138 x8_6 = some r) ∧ Aside0 (kq ≤ kj3) ∧ Aside0 (Below w.heap.size w wc))
      case first =>
        have H := HC7.out
        clear HC7
        by_cases c8 : (wrap64 (1 + (wrap64 (Int.tmod a0 5)))) = 3
        · rw [if_pos c8] at H
          have c8b0 : ((wrap64 (1 + (wrap64 (Int.tmod a0 5)))) == 3) = true := beq_iff_eq.mpr c8
          have c8b1 : ((wrap64 (1 + (wrap64 (Int.tmod a0 5)))) != 3) = false := bne_eq_false_iff_eq.mpr c8
          clear c8
          (first | rw [c8b0] | (simp only [i64_w, i32_w]; rw [c8b0]) | skip)
          by_cases c9 : a1 ≥ (-4096)
          · rw [if_pos c9] at H
            have c9b0 : decide ((-4096) ≤ a1) = true := decide_eq_true c9
            clear c9
            by_cases c10 : a1 ≤ 4095
            · rw [if_pos c10] at H
              have c10b0 : decide (a1 ≤ 4095) = true := decide_eq_true c10
              clear c10
              have H' := Aside0.mk H
              clear H
              go_wp2
              go_meet
              case rel => exact ⟨_, (((Int.tmod a1 2) == 0)), (by first | rfl | (simp; done) | (simp [*]; done)), H', ⟨by have := HJ3.out; first | omega | exact Nat.le_refl _⟩, ⟨by repeat (first | (with_reducible first | exact HB.out | apply below_alloc | apply pw_below_drewN | apply below_drew1) | exact HB.out)⟩⟩
            · rw [if_neg c10] at H
              have c10b0 : decide (a1 ≤ 4095) = false := decide_eq_false c10
              clear c10
              have H' := Aside0.mk H
              clear H
              go_wp2
              go_meet
              case rel => exact ⟨_, (false), (by first | rfl | (simp; done) | (simp [*]; done)), H', ⟨by have := HJ3.out; first | omega | exact Nat.le_refl _⟩, ⟨by repeat (first | (with_reducible first | exact HB.out | apply below_alloc | apply pw_below_drewN | apply below_drew1) | exact HB.out)⟩⟩
          · rw [if_neg c9] at H
            have c9b0 : decide ((-4096) ≤ a1) = false := decide_eq_false c9
            clear c9
            have H' := Aside0.mk H
            clear H
            go_wp2
            go_meet
            case rel => exact ⟨_, (false), (by first | rfl | (simp; done) | (simp [*]; done)), H', ⟨by have := HJ3.out; first | omega | exact Nat.le_refl _⟩, ⟨by repeat (first | (with_reducible first | exact HB.out | apply below_alloc | apply pw_below_drewN | apply below_drew1) | exact HB.out)⟩⟩
        · rw [if_neg c8] at H
          have c8b0 : ((wrap64 (1 + (wrap64 (Int.tmod a0 5)))) == 3) = false := beq_eq_false_iff_ne.mpr c8
          have c8b1 : ((wrap64 (1 + (wrap64 (Int.tmod a0 5)))) != 3) = true := bne_iff_ne.mpr c8
          (first | rw [c8b0] | (simp only [i64_w, i32_w]; rw [c8b0]) | skip)
          have H' := Aside0.mk H
          clear H
          go_wp2
          go_meet
          case rel => exact ⟨_, (x8_3), (by first | rfl | (simp; done) | (simp [*]; done)), H', ⟨by have := HJ3.out; first | omega | exact Nat.le_refl _⟩, ⟨by repeat (first | (with_reducible first | exact HB.out | apply below_alloc | apply pw_below_drewN | apply below_drew1) | exact HB.out)⟩⟩
      case rest =>
        clear HC7
        try clear c1
        try clear c2
        try clear p2
        try clear c6
        try clear c6b0
        try clear p6
        try clear c8
        try clear c8b0
        try clear c8b1
        try clear c9
        try clear c9b0
        try clear c10
        try clear c10b0
        try clear p2
        try clear p6
        obtain ⟨kq, x8_6, rfl, HA, HJ6, HB⟩ := hcut
        cases kq with
        | zero => exact absurd HA.out (by simp [pintlelaw02_ImmRange.j1])
        | succ kj6 =>
          have H := HA.out
          clear HA
          simp only [pintlelaw02_ImmRange.j1] at H
          by_cases c11 : (wrap64 (1 + (wrap64 (Int.tmod a0 5)))) = 4
          · rw [if_pos c11] at H
            have c11b0 : ((wrap64 (1 + (wrap64 (Int.tmod a0 5)))) == 4) = true := beq_iff_eq.mpr c11
            have c11b1 : ((wrap64 (1 + (wrap64 (Int.tmod a0 5)))) != 4) = false := bne_eq_false_iff_eq.mpr c11
            clear c11
            by_cases c12 : (wrap64 (1 + (wrap64 (Int.tmod a0 5)))) = 5
            · rw [if_pos c12] at H
              have c12b0 : ((wrap64 (1 + (wrap64 (Int.tmod a0 5)))) == 5) = true := beq_iff_eq.mpr c12
              have c12b1 : ((wrap64 (1 + (wrap64 (Int.tmod a0 5)))) != 5) = false := bne_eq_false_iff_eq.mpr c12
              clear c12
              by_cases c13 : a1 ≥ (-1048576)
              · rw [if_pos c13] at H
                have c13b0 : decide ((-1048576) ≤ a1) = true := decide_eq_true c13
                clear c13
                by_cases c14 : a1 ≤ 1048575
                · rw [if_pos c14] at H
                  have c14b0 : decide (a1 ≤ 1048575) = true := decide_eq_true c14
                  clear c14
                  by_cases c15 : (t138 == ((Int.tmod a1 2) == 0)) = true
                  · rw [if_pos c15] at H
                    have c15b0 : (t138 == ((Int.tmod a1 2) == 0)) = true := c15
                    (try (have c15b1 : decide (t138 = ((Int.tmod a1 2) == 0)) = true := by simpa using c15))
                    (try (have c15b2 : (t138 == ((Int.tmod a1 2) == 0)) = true := by simpa using c15))
                    clear c15
                    replace H := Option.bind_eq_some_iff.mp H
                    obtain ⟨t139, A160, H⟩ := H
                    replace H : (some t139) = some r := H
                    have A16 := Aside0.mk A160
                    clear A160
                    obtain rfl := Option.some.inj H
                    go_wp2_with (first | (go_at_call 22; (with_reducible refine (pintlelaw02_lives.calls kj6  t139 _ A16.out).mono ?_); rintro e w17 ⟨rfl, hb⟩; have n0_ := Aside0.mk (below_step (by repeat (first | (with_reducible first | exact HB.out | apply below_alloc | apply pw_below_drewN | apply below_drew1) | exact HB.out)) hb); clear HB; have HB := n0_; clear n0_; (try clear hb); (try clear hb2); (try clear hk); (try clear hi)))
                    go_ret
                    exact ⟨by first | rfl | (simp [errW_none, errW_some] <;> rfl) | (simp [*, errW_none, errW_some] <;> rfl), by repeat (first | (with_reducible first | exact HB.out | apply below_alloc | apply pw_below_drewN | apply below_drew1) | exact HB.out)⟩
                  · rw [if_neg c15] at H
                    have c15b0 : (t138 == ((Int.tmod a1 2) == 0)) = false := by simpa using c15
                    (try (have c15b1 : decide (t138 = ((Int.tmod a1 2) == 0)) = false := by simpa using c15))
                    (try (have c15b2 : (t138 == ((Int.tmod a1 2) == 0)) = false := by simpa using c15))
                    (try (have c15b3 : ¬ (t138 = ((Int.tmod a1 2) == 0)) := by simpa using c15))
                    clear c15
                    obtain rfl := Option.some.inj H
                    go_wp2
                    go_ret
                    exact ⟨by first | rfl | (simp [errW_none, errW_some] <;> rfl) | (simp [*, errW_none, errW_some] <;> rfl), by repeat (first | (with_reducible first | exact HB.out | apply below_alloc | apply pw_below_drewN | apply below_drew1) | exact HB.out)⟩
                · rw [if_neg c14] at H
                  have c14b0 : decide (a1 ≤ 1048575) = false := decide_eq_false c14
                  clear c14
                  by_cases c18 : (t138 == false) = true
                  · rw [if_pos c18] at H
                    have c18b0 : (t138 == false) = true := c18
                    (try (have c18b1 : decide (t138 = false) = true := by simpa using c18))
                    (try (have c18b2 : (t138 == false) = true := by simpa using c18))
                    clear c18
                    replace H := Option.bind_eq_some_iff.mp H
                    obtain ⟨t140, A190, H⟩ := H
                    replace H : (some t140) = some r := H
                    have A19 := Aside0.mk A190
                    clear A190
                    obtain rfl := Option.some.inj H
                    go_wp2_with (first | (go_at_call 22; (with_reducible refine (pintlelaw02_lives.calls kj6  t140 _ A19.out).mono ?_); rintro e w20 ⟨rfl, hb⟩; have n0_ := Aside0.mk (below_step (by repeat (first | (with_reducible first | exact HB.out | apply below_alloc | apply pw_below_drewN | apply below_drew1) | exact HB.out)) hb); clear HB; have HB := n0_; clear n0_; (try clear hb); (try clear hb2); (try clear hk); (try clear hi)))
                    go_ret
                    exact ⟨by first | rfl | (simp [errW_none, errW_some] <;> rfl) | (simp [*, errW_none, errW_some] <;> rfl), by repeat (first | (with_reducible first | exact HB.out | apply below_alloc | apply pw_below_drewN | apply below_drew1) | exact HB.out)⟩
                  · rw [if_neg c18] at H
                    have c18b0 : (t138 == false) = false := by simpa using c18
                    (try (have c18b1 : decide (t138 = false) = false := by simpa using c18))
                    (try (have c18b2 : (t138 == false) = false := by simpa using c18))
                    (try (have c18b3 : ¬ (t138 = false) := by simpa using c18))
                    clear c18
                    obtain rfl := Option.some.inj H
                    go_wp2
                    go_ret
                    exact ⟨by first | rfl | (simp [errW_none, errW_some] <;> rfl) | (simp [*, errW_none, errW_some] <;> rfl), by repeat (first | (with_reducible first | exact HB.out | apply below_alloc | apply pw_below_drewN | apply below_drew1) | exact HB.out)⟩
              · rw [if_neg c13] at H
                have c13b0 : decide ((-1048576) ≤ a1) = false := decide_eq_false c13
                clear c13
                by_cases c21 : (t138 == false) = true
                · rw [if_pos c21] at H
                  have c21b0 : (t138 == false) = true := c21
                  (try (have c21b1 : decide (t138 = false) = true := by simpa using c21))
                  (try (have c21b2 : (t138 == false) = true := by simpa using c21))
                  clear c21
                  replace H := Option.bind_eq_some_iff.mp H
                  obtain ⟨t141, A220, H⟩ := H
                  replace H : (some t141) = some r := H
                  have A22 := Aside0.mk A220
                  clear A220
                  obtain rfl := Option.some.inj H
                  go_wp2_with (first | (go_at_call 22; (with_reducible refine (pintlelaw02_lives.calls kj6  t141 _ A22.out).mono ?_); rintro e w23 ⟨rfl, hb⟩; have n0_ := Aside0.mk (below_step (by repeat (first | (with_reducible first | exact HB.out | apply below_alloc | apply pw_below_drewN | apply below_drew1) | exact HB.out)) hb); clear HB; have HB := n0_; clear n0_; (try clear hb); (try clear hb2); (try clear hk); (try clear hi)))
                  go_ret
                  exact ⟨by first | rfl | (simp [errW_none, errW_some] <;> rfl) | (simp [*, errW_none, errW_some] <;> rfl), by repeat (first | (with_reducible first | exact HB.out | apply below_alloc | apply pw_below_drewN | apply below_drew1) | exact HB.out)⟩
                · rw [if_neg c21] at H
                  have c21b0 : (t138 == false) = false := by simpa using c21
                  (try (have c21b1 : decide (t138 = false) = false := by simpa using c21))
                  (try (have c21b2 : (t138 == false) = false := by simpa using c21))
                  (try (have c21b3 : ¬ (t138 = false) := by simpa using c21))
                  clear c21
                  obtain rfl := Option.some.inj H
                  go_wp2
                  go_ret
                  exact ⟨by first | rfl | (simp [errW_none, errW_some] <;> rfl) | (simp [*, errW_none, errW_some] <;> rfl), by repeat (first | (with_reducible first | exact HB.out | apply below_alloc | apply pw_below_drewN | apply below_drew1) | exact HB.out)⟩
            · rw [if_neg c12] at H
              have c12b0 : ((wrap64 (1 + (wrap64 (Int.tmod a0 5)))) == 5) = false := beq_eq_false_iff_ne.mpr c12
              have c12b1 : ((wrap64 (1 + (wrap64 (Int.tmod a0 5)))) != 5) = true := bne_iff_ne.mpr c12
              by_cases c24 : (t138 == ((Int.tmod a1 4096) == 0)) = true
              · rw [if_pos c24] at H
                have c24b0 : (t138 == ((Int.tmod a1 4096) == 0)) = true := c24
                (try (have c24b1 : decide (t138 = ((Int.tmod a1 4096) == 0)) = true := by simpa using c24))
                (try (have c24b2 : (t138 == ((Int.tmod a1 4096) == 0)) = true := by simpa using c24))
                clear c24
                replace H := Option.bind_eq_some_iff.mp H
                obtain ⟨t142, A250, H⟩ := H
                replace H : (some t142) = some r := H
                have A25 := Aside0.mk A250
                clear A250
                obtain rfl := Option.some.inj H
                go_wp2_with (first | (go_at_call 22; (with_reducible refine (pintlelaw02_lives.calls kj6  t142 _ A25.out).mono ?_); rintro e w26 ⟨rfl, hb⟩; have n0_ := Aside0.mk (below_step (by repeat (first | (with_reducible first | exact HB.out | apply below_alloc | apply pw_below_drewN | apply below_drew1) | exact HB.out)) hb); clear HB; have HB := n0_; clear n0_; (try clear hb); (try clear hb2); (try clear hk); (try clear hi)))
                go_ret
                exact ⟨by first | rfl | (simp [errW_none, errW_some] <;> rfl) | (simp [*, errW_none, errW_some] <;> rfl), by repeat (first | (with_reducible first | exact HB.out | apply below_alloc | apply pw_below_drewN | apply below_drew1) | exact HB.out)⟩
              · rw [if_neg c24] at H
                have c24b0 : (t138 == ((Int.tmod a1 4096) == 0)) = false := by simpa using c24
                (try (have c24b1 : decide (t138 = ((Int.tmod a1 4096) == 0)) = false := by simpa using c24))
                (try (have c24b2 : (t138 == ((Int.tmod a1 4096) == 0)) = false := by simpa using c24))
                (try (have c24b3 : ¬ (t138 = ((Int.tmod a1 4096) == 0)) := by simpa using c24))
                clear c24
                obtain rfl := Option.some.inj H
                go_wp2
                go_ret
                exact ⟨by first | rfl | (simp [errW_none, errW_some] <;> rfl) | (simp [*, errW_none, errW_some] <;> rfl), by repeat (first | (with_reducible first | exact HB.out | apply below_alloc | apply pw_below_drewN | apply below_drew1) | exact HB.out)⟩
          · rw [if_neg c11] at H
            have c11b0 : ((wrap64 (1 + (wrap64 (Int.tmod a0 5)))) == 4) = false := beq_eq_false_iff_ne.mpr c11
            have c11b1 : ((wrap64 (1 + (wrap64 (Int.tmod a0 5)))) != 4) = true := bne_iff_ne.mpr c11
            by_cases c27 : (wrap64 (1 + (wrap64 (Int.tmod a0 5)))) = 5
            · rw [if_pos c27] at H
              have c27b0 : ((wrap64 (1 + (wrap64 (Int.tmod a0 5)))) == 5) = true := beq_iff_eq.mpr c27
              have c27b1 : ((wrap64 (1 + (wrap64 (Int.tmod a0 5)))) != 5) = false := bne_eq_false_iff_eq.mpr c27
              clear c27
              by_cases c28 : a1 ≥ (-1048576)
              · rw [if_pos c28] at H
                have c28b0 : decide ((-1048576) ≤ a1) = true := decide_eq_true c28
                clear c28
                by_cases c29 : a1 ≤ 1048575
                · rw [if_pos c29] at H
                  have c29b0 : decide (a1 ≤ 1048575) = true := decide_eq_true c29
                  clear c29
                  by_cases c30 : (t138 == ((Int.tmod a1 2) == 0)) = true
                  · rw [if_pos c30] at H
                    have c30b0 : (t138 == ((Int.tmod a1 2) == 0)) = true := c30
                    (try (have c30b1 : decide (t138 = ((Int.tmod a1 2) == 0)) = true := by simpa using c30))
                    (try (have c30b2 : (t138 == ((Int.tmod a1 2) == 0)) = true := by simpa using c30))
                    clear c30
                    replace H := Option.bind_eq_some_iff.mp H
                    obtain ⟨t143, A310, H⟩ := H
                    replace H : (some t143) = some r := H
                    have A31 := Aside0.mk A310
                    clear A310
                    obtain rfl := Option.some.inj H
                    go_wp2_with (first | (go_at_call 22; (with_reducible refine (pintlelaw02_lives.calls kj6  t143 _ A31.out).mono ?_); rintro e w32 ⟨rfl, hb⟩; have n0_ := Aside0.mk (below_step (by repeat (first | (with_reducible first | exact HB.out | apply below_alloc | apply pw_below_drewN | apply below_drew1) | exact HB.out)) hb); clear HB; have HB := n0_; clear n0_; (try clear hb); (try clear hb2); (try clear hk); (try clear hi)))
                    go_ret
                    exact ⟨by first | rfl | (simp [errW_none, errW_some] <;> rfl) | (simp [*, errW_none, errW_some] <;> rfl), by repeat (first | (with_reducible first | exact HB.out | apply below_alloc | apply pw_below_drewN | apply below_drew1) | exact HB.out)⟩
                  · rw [if_neg c30] at H
                    have c30b0 : (t138 == ((Int.tmod a1 2) == 0)) = false := by simpa using c30
                    (try (have c30b1 : decide (t138 = ((Int.tmod a1 2) == 0)) = false := by simpa using c30))
                    (try (have c30b2 : (t138 == ((Int.tmod a1 2) == 0)) = false := by simpa using c30))
                    (try (have c30b3 : ¬ (t138 = ((Int.tmod a1 2) == 0)) := by simpa using c30))
                    clear c30
                    obtain rfl := Option.some.inj H
                    go_wp2
                    go_ret
                    exact ⟨by first | rfl | (simp [errW_none, errW_some] <;> rfl) | (simp [*, errW_none, errW_some] <;> rfl), by repeat (first | (with_reducible first | exact HB.out | apply below_alloc | apply pw_below_drewN | apply below_drew1) | exact HB.out)⟩
                · rw [if_neg c29] at H
                  have c29b0 : decide (a1 ≤ 1048575) = false := decide_eq_false c29
                  clear c29
                  by_cases c33 : (t138 == false) = true
                  · rw [if_pos c33] at H
                    have c33b0 : (t138 == false) = true := c33
                    (try (have c33b1 : decide (t138 = false) = true := by simpa using c33))
                    (try (have c33b2 : (t138 == false) = true := by simpa using c33))
                    clear c33
                    replace H := Option.bind_eq_some_iff.mp H
                    obtain ⟨t144, A340, H⟩ := H
                    replace H : (some t144) = some r := H
                    have A34 := Aside0.mk A340
                    clear A340
                    obtain rfl := Option.some.inj H
                    go_wp2_with (first | (go_at_call 22; (with_reducible refine (pintlelaw02_lives.calls kj6  t144 _ A34.out).mono ?_); rintro e w35 ⟨rfl, hb⟩; have n0_ := Aside0.mk (below_step (by repeat (first | (with_reducible first | exact HB.out | apply below_alloc | apply pw_below_drewN | apply below_drew1) | exact HB.out)) hb); clear HB; have HB := n0_; clear n0_; (try clear hb); (try clear hb2); (try clear hk); (try clear hi)))
                    go_ret
                    exact ⟨by first | rfl | (simp [errW_none, errW_some] <;> rfl) | (simp [*, errW_none, errW_some] <;> rfl), by repeat (first | (with_reducible first | exact HB.out | apply below_alloc | apply pw_below_drewN | apply below_drew1) | exact HB.out)⟩
                  · rw [if_neg c33] at H
                    have c33b0 : (t138 == false) = false := by simpa using c33
                    (try (have c33b1 : decide (t138 = false) = false := by simpa using c33))
                    (try (have c33b2 : (t138 == false) = false := by simpa using c33))
                    (try (have c33b3 : ¬ (t138 = false) := by simpa using c33))
                    clear c33
                    obtain rfl := Option.some.inj H
                    go_wp2
                    go_ret
                    exact ⟨by first | rfl | (simp [errW_none, errW_some] <;> rfl) | (simp [*, errW_none, errW_some] <;> rfl), by repeat (first | (with_reducible first | exact HB.out | apply below_alloc | apply pw_below_drewN | apply below_drew1) | exact HB.out)⟩
              · rw [if_neg c28] at H
                have c28b0 : decide ((-1048576) ≤ a1) = false := decide_eq_false c28
                clear c28
                by_cases c36 : (t138 == false) = true
                · rw [if_pos c36] at H
                  have c36b0 : (t138 == false) = true := c36
                  (try (have c36b1 : decide (t138 = false) = true := by simpa using c36))
                  (try (have c36b2 : (t138 == false) = true := by simpa using c36))
                  clear c36
                  replace H := Option.bind_eq_some_iff.mp H
                  obtain ⟨t145, A370, H⟩ := H
                  replace H : (some t145) = some r := H
                  have A37 := Aside0.mk A370
                  clear A370
                  obtain rfl := Option.some.inj H
                  go_wp2_with (first | (go_at_call 22; (with_reducible refine (pintlelaw02_lives.calls kj6  t145 _ A37.out).mono ?_); rintro e w38 ⟨rfl, hb⟩; have n0_ := Aside0.mk (below_step (by repeat (first | (with_reducible first | exact HB.out | apply below_alloc | apply pw_below_drewN | apply below_drew1) | exact HB.out)) hb); clear HB; have HB := n0_; clear n0_; (try clear hb); (try clear hb2); (try clear hk); (try clear hi)))
                  go_ret
                  exact ⟨by first | rfl | (simp [errW_none, errW_some] <;> rfl) | (simp [*, errW_none, errW_some] <;> rfl), by repeat (first | (with_reducible first | exact HB.out | apply below_alloc | apply pw_below_drewN | apply below_drew1) | exact HB.out)⟩
                · rw [if_neg c36] at H
                  have c36b0 : (t138 == false) = false := by simpa using c36
                  (try (have c36b1 : decide (t138 = false) = false := by simpa using c36))
                  (try (have c36b2 : (t138 == false) = false := by simpa using c36))
                  (try (have c36b3 : ¬ (t138 = false) := by simpa using c36))
                  clear c36
                  obtain rfl := Option.some.inj H
                  go_wp2
                  go_ret
                  exact ⟨by first | rfl | (simp [errW_none, errW_some] <;> rfl) | (simp [*, errW_none, errW_some] <;> rfl), by repeat (first | (with_reducible first | exact HB.out | apply below_alloc | apply pw_below_drewN | apply below_drew1) | exact HB.out)⟩
            · rw [if_neg c27] at H
              have c27b0 : ((wrap64 (1 + (wrap64 (Int.tmod a0 5)))) == 5) = false := beq_eq_false_iff_ne.mpr c27
              have c27b1 : ((wrap64 (1 + (wrap64 (Int.tmod a0 5)))) != 5) = true := bne_iff_ne.mpr c27
              by_cases c39 : (t138 == x8_6) = true
              · rw [if_pos c39] at H
                have c39b0 : (t138 == x8_6) = true := c39
                (try (have c39b1 : decide (t138 = x8_6) = true := by simpa using c39))
                (try (have c39b2 : (t138 == x8_6) = true := by simpa using c39))
                clear c39
                replace H := Option.bind_eq_some_iff.mp H
                obtain ⟨t146, A400, H⟩ := H
                replace H : (some t146) = some r := H
                have A40 := Aside0.mk A400
                clear A400
                obtain rfl := Option.some.inj H
                go_wp2_with (first | (go_at_call 22; (with_reducible refine (pintlelaw02_lives.calls kj6  t146 _ A40.out).mono ?_); rintro e w41 ⟨rfl, hb⟩; have n0_ := Aside0.mk (below_step (by repeat (first | (with_reducible first | exact HB.out | apply below_alloc | apply pw_below_drewN | apply below_drew1) | exact HB.out)) hb); clear HB; have HB := n0_; clear n0_; (try clear hb); (try clear hb2); (try clear hk); (try clear hi)))
                go_ret
                exact ⟨by first | rfl | (simp [errW_none, errW_some] <;> rfl) | (simp [*, errW_none, errW_some] <;> rfl), by repeat (first | (with_reducible first | exact HB.out | apply below_alloc | apply pw_below_drewN | apply below_drew1) | exact HB.out)⟩
              · rw [if_neg c39] at H
                have c39b0 : (t138 == x8_6) = false := by simpa using c39
                (try (have c39b1 : decide (t138 = x8_6) = false := by simpa using c39))
                (try (have c39b2 : (t138 == x8_6) = false := by simpa using c39))
                (try (have c39b3 : ¬ (t138 = x8_6) := by simpa using c39))
                clear c39
                obtain rfl := Option.some.inj H
                go_wp2
                go_ret
                exact ⟨by first | rfl | (simp [errW_none, errW_some] <;> rfl) | (simp [*, errW_none, errW_some] <;> rfl), by repeat (first | (with_reducible first | exact HB.out | apply below_alloc | apply pw_below_drewN | apply below_drew1) | exact HB.out)⟩

/-- THE ONE PURE STATEMENT of pintlelaw02_ImmRange: yours. -/
def pintlelaw02_ImmRange.Pure : Prop := ∀ (a0 : Int) (a1 : Int), (Lit.int .u8 a0).wf = true → (Lit.int .i32 a1).wf = true → ∃ k, pintlelaw02_ImmRange.f k a0 a1 = some true
theorem pintlelaw02_ImmRange.walk (P : pintlelaw02_ImmRange.Pure) (a0 : Int) (a1 : Int) (w : World) (w0 : (Lit.int .u8 a0).wf = true) (w1 : (Lit.int .i32 a1).wf = true) :
    Calls Try.prog 10 #[.int .u8 a0, .int .i32 a1] w fun e w' => e = .returned (.bool true) ∧ Below w.heap.size w w' := by
  obtain ⟨k, h⟩ := P a0 a1 w0 w1
  refine (pintlelaw02_ImmRange.calls k a0 a1 true w h).mono ?_
  rintro e w' ⟨rfl, hd⟩
  exact ⟨rfl, hd⟩

end Go.Proofs.Ytkbbphcfhgjapaa.PImmRange
