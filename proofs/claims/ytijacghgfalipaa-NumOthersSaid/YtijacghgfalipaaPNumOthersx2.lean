-- PRINTED BY print.sh 35421559b90ae4d0a3588c463048766b98c2df88dd9212a6774a882060cdf62d: not written by this session
import Derived.Test.YtijacghgfalipaaPNumOthersx0
import Derived.Test.YtijacghgfalipaaPNumOthersx1
namespace Go.Proofs.Ytijacghgfalipaa.PNumOthers
open Go.RowKit Go.Proofs.YtijacghgfalipaaW.PrintWords Go.Proofs.YtijacghgfalipaaW.PrintLast Go.Proofs.YtijacghgfalipaaW.PrintMore
attribute [local go_sem] max2_int min2_int max_two min_two max_three min_three max_four min_four   -- for this text's walks alone
set_option linter.unusedVariables false
set_option linter.unusedSimpArgs false

/-! ### pintlelaw01_NumOthers: function 6 -/
def pintlelaw01_NumOthers.f (k : Nat) (a0 : Int) (a1 : Int) (a2 : Int) : Option (Bool) := (num_Alu.f k a0 a1 a2).bind fun bt114 => (if a0 ≥ 1 then (if (bt114.2 == (decide (a0 ≤ 18))) = true then (if bt114.2 = true then ((pintlelaw01_lives.f k).bind fun t116 => (some t116)) else (if bt114.1 = 0 then ((pintlelaw01_lives.f k).bind fun t117 => (some t117)) else (some false))) else (some false)) else (if (bt114.2 == false) = true then (if bt114.2 = true then ((pintlelaw01_lives.f k).bind fun t118 => (some t118)) else (if bt114.1 = 0 then ((pintlelaw01_lives.f k).bind fun t119 => (some t119)) else (some false))) else (some false)))
theorem pintlelaw01_NumOthers.mono : ∀ a0 a1 a2 k, LeO (pintlelaw01_NumOthers.f k a0 a1 a2) (pintlelaw01_NumOthers.f (k + 1) a0 a1 a2) := by
  intro a0 a1 a2 k
  unfold pintlelaw01_NumOthers.f
  repeat' first
      | (with_reducible exact num_Alu.mono _ _ _ _)
      | (with_reducible exact pintlelaw01_lives.mono _)
      | (with_reducible exact LeO.refl _)
      | (with_reducible exact LeO.none _)
      | (with_reducible refine LeO.ite ?_ ?_)
      | (with_reducible refine LeO.bind ?_ (fun _ => ?_))
      | exact num_Alu.mono _ _ _ _
      | exact pintlelaw01_lives.mono _
      | exact LeO.none _
      | refine LeO.ite ?_ ?_
      | refine LeO.bind ?_ (fun _ => ?_)
set_option maxHeartbeats 8000000 in
set_option maxRecDepth 100000 in
theorem pintlelaw01_NumOthers.calls (k : Nat) (a0 : Int) (a1 : Int) (a2 : Int) (r : Bool) (w : World) (h : pintlelaw01_NumOthers.f k a0 a1 a2 = some r) :
    Calls Try.prog 6 #[.int .i64 a0, .int .u32 a1, .int .u32 a2] w fun e w' => e = .returned (.bool r) ∧ Drawn0 w w' := by
  have H : ((num_Alu.f k a0 a1 a2).bind fun bt114 => (if a0 ≥ 1 then (if (bt114.2 == (decide (a0 ≤ 18))) = true then (if bt114.2 = true then ((pintlelaw01_lives.f k).bind fun t116 => (some t116)) else (if bt114.1 = 0 then ((pintlelaw01_lives.f k).bind fun t117 => (some t117)) else (some false))) else (some false)) else (if (bt114.2 == false) = true then (if bt114.2 = true then ((pintlelaw01_lives.f k).bind fun t118 => (some t118)) else (if bt114.1 = 0 then ((pintlelaw01_lives.f k).bind fun t119 => (some t119)) else (some false))) else (some false)))) = some r := h
  clear h
  replace H := Option.bind_eq_some_iff.mp H
  obtain ⟨⟨t114, t115⟩, A40, H⟩ := H
  replace H : (if a0 ≥ 1 then (if (t115 == (decide (a0 ≤ 18))) = true then (if t115 = true then ((pintlelaw01_lives.f k).bind fun t116 => (some t116)) else (if t114 = 0 then ((pintlelaw01_lives.f k).bind fun t117 => (some t117)) else (some false))) else (some false)) else (if (t115 == false) = true then (if t115 = true then ((pintlelaw01_lives.f k).bind fun t118 => (some t118)) else (if t114 = 0 then ((pintlelaw01_lives.f k).bind fun t119 => (some t119)) else (some false))) else (some false))) = some r := H
  have A4 := Aside0.mk A40
  clear A40
  by_cases c5 : a0 ≥ 1
  · rw [if_pos c5] at H
    have c5b0 : decide (1 ≤ a0) = true := decide_eq_true c5
    clear c5
    by_cases c6 : (t115 == (decide (a0 ≤ 18))) = true
    · rw [if_pos c6] at H
      have c6b0 : (t115 == (decide (a0 ≤ 18))) = true := c6
      (try (have c6b1 : decide (t115 = (decide (a0 ≤ 18))) = true := by simpa using c6))
      (try (have c6b2 : (t115 == (decide (a0 ≤ 18))) = true := by simpa using c6))
      clear c6
      by_cases c7 : t115 = true
      · subst c7
        have H1 : ((pintlelaw01_lives.f k).bind fun t116 => (some t116)) = some r := by rw [if_pos rfl] at H; exact H
        clear H
        have H := H1
        clear H1
        replace H := Option.bind_eq_some_iff.mp H
        obtain ⟨t116, A80, H⟩ := H
        replace H : (some t116) = some r := H
        have A8 := Aside0.mk A80
        clear A80
        obtain rfl := Option.some.inj H
        go_enter Try.func6, Try.ntmps6
        go_wp2_with (first | ((with_reducible refine gate_callee (f := 12) rfl ?_); refine goesL_ (some 13) rfl rfl Try.func12 (by kernel_rfl) rfl #[.int .i64 a0, .int .u32 a1, .int .u32 a2] rfl (by (try simp only [List.map_toArray, List.map_cons, List.map_nil]); first | done | rfl | (simp only [List.length_drop, List.length_take]; rfl)) ?_; (with_reducible refine (num_Alu.calls k a0 a1 a2 t114 true _ A4.out).mono ?_); rintro e w' ⟨rfl, ⟨nd, rfl⟩⟩; refine ⟨_, rfl, ?_⟩) | (go_at_call 11; (with_reducible refine (pintlelaw01_lives.calls k  t116 _ A8.out).mono ?_); rintro e w' ⟨rfl, ⟨nd, rfl⟩⟩))
        go_ret
        exact ⟨by first | rfl | (simp; done) | (simp [*]; done), by repeat (first | exact Drawn0.refl _ | apply Drawn0.step)⟩
      · replace c7 := Bool.eq_false_iff.mpr c7
        subst c7
        have H1 : (if t114 = 0 then ((pintlelaw01_lives.f k).bind fun t117 => (some t117)) else (some false)) = some r := by rw [if_neg (show ¬ (false = true) by decide)] at H; exact H
        clear H
        have H := H1
        clear H1
        by_cases c9 : t114 = 0
        · rw [if_pos c9] at H
          have c9b0 : (t114 == 0) = true := beq_iff_eq.mpr c9
          have c9b1 : (t114 != 0) = false := bne_eq_false_iff_eq.mpr c9
          clear c9
          replace H := Option.bind_eq_some_iff.mp H
          obtain ⟨t117, A100, H⟩ := H
          replace H : (some t117) = some r := H
          have A10 := Aside0.mk A100
          clear A100
          obtain rfl := Option.some.inj H
          go_enter Try.func6, Try.ntmps6
          go_wp2_with (first | ((with_reducible refine gate_callee (f := 12) rfl ?_); refine goesL_ (some 13) rfl rfl Try.func12 (by kernel_rfl) rfl #[.int .i64 a0, .int .u32 a1, .int .u32 a2] rfl (by (try simp only [List.map_toArray, List.map_cons, List.map_nil]); first | done | rfl | (simp only [List.length_drop, List.length_take]; rfl)) ?_; (with_reducible refine (num_Alu.calls k a0 a1 a2 t114 false _ A4.out).mono ?_); rintro e w' ⟨rfl, ⟨nd, rfl⟩⟩; refine ⟨_, rfl, ?_⟩) | (go_at_call 11; (with_reducible refine (pintlelaw01_lives.calls k  t117 _ A10.out).mono ?_); rintro e w' ⟨rfl, ⟨nd, rfl⟩⟩))
          go_ret
          exact ⟨by first | rfl | (simp; done) | (simp [*]; done), by repeat (first | exact Drawn0.refl _ | apply Drawn0.step)⟩
        · rw [if_neg c9] at H
          have c9b0 : (t114 == 0) = false := beq_eq_false_iff_ne.mpr c9
          have c9b1 : (t114 != 0) = true := bne_iff_ne.mpr c9
          obtain rfl := Option.some.inj H
          go_enter Try.func6, Try.ntmps6
          go_wp2_with (first | ((with_reducible refine gate_callee (f := 12) rfl ?_); refine goesL_ (some 13) rfl rfl Try.func12 (by kernel_rfl) rfl #[.int .i64 a0, .int .u32 a1, .int .u32 a2] rfl (by (try simp only [List.map_toArray, List.map_cons, List.map_nil]); first | done | rfl | (simp only [List.length_drop, List.length_take]; rfl)) ?_; (with_reducible refine (num_Alu.calls k a0 a1 a2 t114 false _ A4.out).mono ?_); rintro e w' ⟨rfl, ⟨nd, rfl⟩⟩; refine ⟨_, rfl, ?_⟩))
          go_ret
          exact ⟨by first | rfl | (simp; done) | (simp [*]; done), by repeat (first | exact Drawn0.refl _ | apply Drawn0.step)⟩
    · rw [if_neg c6] at H
      have c6b0 : (t115 == (decide (a0 ≤ 18))) = false := by simpa using c6
      (try (have c6b1 : decide (t115 = (decide (a0 ≤ 18))) = false := by simpa using c6))
      (try (have c6b2 : (t115 == (decide (a0 ≤ 18))) = false := by simpa using c6))
      (try (have c6b3 : ¬ (t115 = (decide (a0 ≤ 18))) := by simpa using c6))
      clear c6
      obtain rfl := Option.some.inj H
      go_enter Try.func6, Try.ntmps6
      go_wp2_with (first | ((with_reducible refine gate_callee (f := 12) rfl ?_); refine goesL_ (some 13) rfl rfl Try.func12 (by kernel_rfl) rfl #[.int .i64 a0, .int .u32 a1, .int .u32 a2] rfl (by (try simp only [List.map_toArray, List.map_cons, List.map_nil]); first | done | rfl | (simp only [List.length_drop, List.length_take]; rfl)) ?_; (with_reducible refine (num_Alu.calls k a0 a1 a2 t114 t115 _ A4.out).mono ?_); rintro e w' ⟨rfl, ⟨nd, rfl⟩⟩; refine ⟨_, rfl, ?_⟩))
      go_ret
      exact ⟨by first | rfl | (simp; done) | (simp [*]; done), by repeat (first | exact Drawn0.refl _ | apply Drawn0.step)⟩
  · rw [if_neg c5] at H
    have c5b0 : decide (1 ≤ a0) = false := decide_eq_false c5
    clear c5
    by_cases c11 : (t115 == false) = true
    · rw [if_pos c11] at H
      have c11b0 : (t115 == false) = true := c11
      (try (have c11b1 : decide (t115 = false) = true := by simpa using c11))
      (try (have c11b2 : (t115 == false) = true := by simpa using c11))
      clear c11
      by_cases c12 : t115 = true
      · subst c12
        have H1 : ((pintlelaw01_lives.f k).bind fun t118 => (some t118)) = some r := by rw [if_pos rfl] at H; exact H
        clear H
        have H := H1
        clear H1
        replace H := Option.bind_eq_some_iff.mp H
        obtain ⟨t118, A130, H⟩ := H
        replace H : (some t118) = some r := H
        have A13 := Aside0.mk A130
        clear A130
        obtain rfl := Option.some.inj H
        go_enter Try.func6, Try.ntmps6
        go_wp2_with (first | ((with_reducible refine gate_callee (f := 12) rfl ?_); refine goesL_ (some 13) rfl rfl Try.func12 (by kernel_rfl) rfl #[.int .i64 a0, .int .u32 a1, .int .u32 a2] rfl (by (try simp only [List.map_toArray, List.map_cons, List.map_nil]); first | done | rfl | (simp only [List.length_drop, List.length_take]; rfl)) ?_; (with_reducible refine (num_Alu.calls k a0 a1 a2 t114 true _ A4.out).mono ?_); rintro e w' ⟨rfl, ⟨nd, rfl⟩⟩; refine ⟨_, rfl, ?_⟩) | (go_at_call 11; (with_reducible refine (pintlelaw01_lives.calls k  t118 _ A13.out).mono ?_); rintro e w' ⟨rfl, ⟨nd, rfl⟩⟩))
        go_ret
        exact ⟨by first | rfl | (simp; done) | (simp [*]; done), by repeat (first | exact Drawn0.refl _ | apply Drawn0.step)⟩
      · replace c12 := Bool.eq_false_iff.mpr c12
        subst c12
        have H1 : (if t114 = 0 then ((pintlelaw01_lives.f k).bind fun t119 => (some t119)) else (some false)) = some r := by rw [if_neg (show ¬ (false = true) by decide)] at H; exact H
        clear H
        have H := H1
        clear H1
        by_cases c14 : t114 = 0
        · rw [if_pos c14] at H
          have c14b0 : (t114 == 0) = true := beq_iff_eq.mpr c14
          have c14b1 : (t114 != 0) = false := bne_eq_false_iff_eq.mpr c14
          clear c14
          replace H := Option.bind_eq_some_iff.mp H
          obtain ⟨t119, A150, H⟩ := H
          replace H : (some t119) = some r := H
          have A15 := Aside0.mk A150
          clear A150
          obtain rfl := Option.some.inj H
          go_enter Try.func6, Try.ntmps6
          go_wp2_with (first | ((with_reducible refine gate_callee (f := 12) rfl ?_); refine goesL_ (some 13) rfl rfl Try.func12 (by kernel_rfl) rfl #[.int .i64 a0, .int .u32 a1, .int .u32 a2] rfl (by (try simp only [List.map_toArray, List.map_cons, List.map_nil]); first | done | rfl | (simp only [List.length_drop, List.length_take]; rfl)) ?_; (with_reducible refine (num_Alu.calls k a0 a1 a2 t114 false _ A4.out).mono ?_); rintro e w' ⟨rfl, ⟨nd, rfl⟩⟩; refine ⟨_, rfl, ?_⟩) | (go_at_call 11; (with_reducible refine (pintlelaw01_lives.calls k  t119 _ A15.out).mono ?_); rintro e w' ⟨rfl, ⟨nd, rfl⟩⟩))
          go_ret
          exact ⟨by first | rfl | (simp; done) | (simp [*]; done), by repeat (first | exact Drawn0.refl _ | apply Drawn0.step)⟩
        · rw [if_neg c14] at H
          have c14b0 : (t114 == 0) = false := beq_eq_false_iff_ne.mpr c14
          have c14b1 : (t114 != 0) = true := bne_iff_ne.mpr c14
          obtain rfl := Option.some.inj H
          go_enter Try.func6, Try.ntmps6
          go_wp2_with (first | ((with_reducible refine gate_callee (f := 12) rfl ?_); refine goesL_ (some 13) rfl rfl Try.func12 (by kernel_rfl) rfl #[.int .i64 a0, .int .u32 a1, .int .u32 a2] rfl (by (try simp only [List.map_toArray, List.map_cons, List.map_nil]); first | done | rfl | (simp only [List.length_drop, List.length_take]; rfl)) ?_; (with_reducible refine (num_Alu.calls k a0 a1 a2 t114 false _ A4.out).mono ?_); rintro e w' ⟨rfl, ⟨nd, rfl⟩⟩; refine ⟨_, rfl, ?_⟩))
          go_ret
          exact ⟨by first | rfl | (simp; done) | (simp [*]; done), by repeat (first | exact Drawn0.refl _ | apply Drawn0.step)⟩
    · rw [if_neg c11] at H
      have c11b0 : (t115 == false) = false := by simpa using c11
      (try (have c11b1 : decide (t115 = false) = false := by simpa using c11))
      (try (have c11b2 : (t115 == false) = false := by simpa using c11))
      (try (have c11b3 : ¬ (t115 = false) := by simpa using c11))
      clear c11
      obtain rfl := Option.some.inj H
      go_enter Try.func6, Try.ntmps6
      go_wp2_with (first | ((with_reducible refine gate_callee (f := 12) rfl ?_); refine goesL_ (some 13) rfl rfl Try.func12 (by kernel_rfl) rfl #[.int .i64 a0, .int .u32 a1, .int .u32 a2] rfl (by (try simp only [List.map_toArray, List.map_cons, List.map_nil]); first | done | rfl | (simp only [List.length_drop, List.length_take]; rfl)) ?_; (with_reducible refine (num_Alu.calls k a0 a1 a2 t114 t115 _ A4.out).mono ?_); rintro e w' ⟨rfl, ⟨nd, rfl⟩⟩; refine ⟨_, rfl, ?_⟩))
      go_ret
      exact ⟨by first | rfl | (simp; done) | (simp [*]; done), by repeat (first | exact Drawn0.refl _ | apply Drawn0.step)⟩

/-- THE ONE PURE STATEMENT of pintlelaw01_NumOthers: yours. -/
def pintlelaw01_NumOthers.Pure : Prop := ∀ (a0 : Int) (a1 : Int) (a2 : Int), (Lit.int .i64 a0).wf = true → (Lit.int .u32 a1).wf = true → (Lit.int .u32 a2).wf = true → ∃ k, pintlelaw01_NumOthers.f k a0 a1 a2 = some true
theorem pintlelaw01_NumOthers.walk (P : pintlelaw01_NumOthers.Pure) (a0 : Int) (a1 : Int) (a2 : Int) (w : World) (w0 : (Lit.int .i64 a0).wf = true) (w1 : (Lit.int .u32 a1).wf = true) (w2 : (Lit.int .u32 a2).wf = true) :
    Calls Try.prog 6 #[.int .i64 a0, .int .u32 a1, .int .u32 a2] w fun e w' => e = .returned (.bool true) ∧ Below w.heap.size w w' := by
  obtain ⟨k, h⟩ := P a0 a1 a2 w0 w1 w2
  refine (pintlelaw01_NumOthers.calls k a0 a1 a2 true w h).mono ?_
  rintro e w' ⟨rfl, hd⟩
  exact ⟨rfl, hd.below⟩

end Go.Proofs.Ytijacghgfalipaa.PNumOthers
