/- Plain functions with the same answers as the program's, each with its proof: as the kit prints them, but for one row. -/
import Derived.Test.YtijacghgfalipaaPNumSignsx0
import Derived.Test.YtijacghgfalipaaPNumSignsx1
namespace Go.Proofs.Ytijacghgfalipaa.PNumSigns
open Go.RowKit Go.Proofs.YtijacghgfalipaaW.PrintWords Go.Proofs.YtijacghgfalipaaW.PrintLast Go.Proofs.YtijacghgfalipaaW.PrintMore
attribute [local go_sem] max2_int min2_int max_two min_two max_three min_three max_four min_four   -- for this text's walks alone
set_option linter.unusedVariables false
set_option linter.unusedSimpArgs false

/-! ### pintleref01_Sext: function 16 -/
def pintleref01_Sext.f (a0 : Int) (a1 : Int) : Option (Int) := if a1 < 1 then (some 0) else (if a1 > 31 then (some a0) else (if 0 ≤ (IntKind.u64.wrap (a1)) then (if (shl .i64 1 (IntKind.u64.wrap (a1))) = 0 then (none) else (if 0 ≤ (IntKind.u64.wrap (wrap64 (a1 - 1))) then (if (Int.tmod (wrap64 (a0)) (shl .i64 1 (IntKind.u64.wrap (a1)))) ≥ (shl .i64 1 (IntKind.u64.wrap (wrap64 (a1 - 1)))) then ((pintleref01_Word.f (wrap64 ((Int.tmod (wrap64 (a0)) (shl .i64 1 (IntKind.u64.wrap (a1)))) - (shl .i64 1 (IntKind.u64.wrap (a1)))))).bind fun t114 => (some t114)) else ((pintleref01_Word.f (Int.tmod (wrap64 (a0)) (shl .i64 1 (IntKind.u64.wrap (a1))))).bind fun t115 => (some t115))) else (none))) else (none)))
set_option maxHeartbeats 8000000 in
set_option maxRecDepth 100000 in
theorem pintleref01_Sext.calls (a0 : Int) (a1 : Int) (r : Int) (w : World) (h : pintleref01_Sext.f a0 a1 = some r) :
    Calls Try.prog 16 #[.int .u32 a0, .int .i64 a1] w fun e w' => e = .returned (.int .u32 r) ∧ Drawn0 w w' := by
  have H : (if a1 < 1 then (some 0) else (if a1 > 31 then (some a0) else (if 0 ≤ (IntKind.u64.wrap (a1)) then (if (shl .i64 1 (IntKind.u64.wrap (a1))) = 0 then (none) else (if 0 ≤ (IntKind.u64.wrap (wrap64 (a1 - 1))) then (if (Int.tmod (wrap64 (a0)) (shl .i64 1 (IntKind.u64.wrap (a1)))) ≥ (shl .i64 1 (IntKind.u64.wrap (wrap64 (a1 - 1)))) then ((pintleref01_Word.f (wrap64 ((Int.tmod (wrap64 (a0)) (shl .i64 1 (IntKind.u64.wrap (a1)))) - (shl .i64 1 (IntKind.u64.wrap (a1)))))).bind fun t114 => (some t114)) else ((pintleref01_Word.f (Int.tmod (wrap64 (a0)) (shl .i64 1 (IntKind.u64.wrap (a1))))).bind fun t115 => (some t115))) else (none))) else (none)))) = some r := h
  clear h
  by_cases c3 : a1 < 1
  · rw [if_pos c3] at H
    have c3b0 : decide (a1 < 1) = true := decide_eq_true c3
    clear c3
    obtain rfl := Option.some.inj H
    go_enter Try.func16, Try.ntmps16
    go_wp2
    go_ret
    exact ⟨by first | rfl | (simp; done) | (simp [*]; done), by repeat (first | exact Drawn0.refl _ | apply Drawn0.step)⟩
  · rw [if_neg c3] at H
    have c3b0 : decide (a1 < 1) = false := decide_eq_false c3
    clear c3
    by_cases c4 : a1 > 31
    · rw [if_pos c4] at H
      have c4b0 : decide (31 < a1) = true := decide_eq_true c4
      clear c4
      obtain rfl := Option.some.inj H
      go_enter Try.func16, Try.ntmps16
      go_wp2
      go_ret
      exact ⟨by first | rfl | (simp; done) | (simp [*]; done), by repeat (first | exact Drawn0.refl _ | apply Drawn0.step)⟩
    · rw [if_neg c4] at H
      have c4b0 : decide (31 < a1) = false := decide_eq_false c4
      clear c4
      obtain ⟨ji5, hji5⟩ : ∃ j_ : Int, (IntKind.u64.wrap (a1)) = j_ := ⟨_, rfl⟩
      replace H : (if 0 ≤ (ji5) then (if (shl .i64 1 (ji5)) = 0 then (none) else (if 0 ≤ (IntKind.u64.wrap (wrap64 (a1 - 1))) then (if (Int.tmod (wrap64 (a0)) (shl .i64 1 (ji5))) ≥ (shl .i64 1 (IntKind.u64.wrap (wrap64 (a1 - 1)))) then ((pintleref01_Word.f (wrap64 ((Int.tmod (wrap64 (a0)) (shl .i64 1 (ji5))) - (shl .i64 1 (ji5))))).bind fun t114 => (some t114)) else ((pintleref01_Word.f (Int.tmod (wrap64 (a0)) (shl .i64 1 (ji5)))).bind fun t115 => (some t115))) else (none))) else (none)) = some r := by first | (rw [hji5] at H; exact H) | (simp only [hji5] at H ⊢; exact H)
      by_cases c6 : 0 ≤ (ji5)
      · rw [if_pos c6] at H
        have c6b0 := eq_true c6
        have c6b1 : decide (0 ≤ (ji5)) = true := decide_eq_true c6
        clear c6
        obtain ⟨ji7, hji7⟩ : ∃ j_ : Int, (shl .i64 1 (ji5)) = j_ := ⟨_, rfl⟩
        replace H : (if (ji7) = 0 then (none) else (if 0 ≤ (IntKind.u64.wrap (wrap64 (a1 - 1))) then (if (Int.tmod (wrap64 (a0)) (ji7)) ≥ (shl .i64 1 (IntKind.u64.wrap (wrap64 (a1 - 1)))) then ((pintleref01_Word.f (wrap64 ((Int.tmod (wrap64 (a0)) (ji7)) - (ji7)))).bind fun t114 => (some t114)) else ((pintleref01_Word.f (Int.tmod (wrap64 (a0)) (ji7))).bind fun t115 => (some t115))) else (none))) = some r := by first | (rw [hji7] at H; exact H) | (simp only [hji7] at H ⊢; exact H)
        have hji7_ : (IntKind.i64.wrap (1 * 2 ^ min (ji5).toNat 64)) = ji7 := hji7
        have hji7z : (ji5) ≤ 64 → (IntKind.i64.wrap (1 * 2 ^ (ji5).toNat)) = ji7 := shl_small hji7
        have hji7u : (IntKind.i64.wrap (2 ^ min (ji5).toNat 64)) = ji7 := by have h_ := hji7_; rw [Int.one_mul] at h_; exact h_
        have hji7v : (ji5) ≤ 64 → (IntKind.i64.wrap (2 ^ (ji5).toNat)) = ji7 := fun hle_ => by have h_ := hji7z hle_; rw [Int.one_mul] at h_; exact h_
        have hji7y : (wrap64 (1 * 2 ^ min (ji5).toNat 64)) = ji7 := (i64_w _).symm.trans hji7_
        have hji7x : (ji5) ≤ 64 → (wrap64 (1 * 2 ^ (ji5).toNat)) = ji7 := fun h_ => (i64_w _).symm.trans (hji7z h_)
        by_cases c8 : (ji7) = 0
        · rw [if_pos c8] at H
          exact absurd H (by simp)
        · rw [if_neg c8] at H
          have c8b0 : ((ji7) == 0) = false := beq_eq_false_iff_ne.mpr c8
          have c8b1 : ((ji7) != 0) = true := bne_iff_ne.mpr c8
          obtain ⟨ji9, hji9⟩ : ∃ j_ : Int, (IntKind.u64.wrap (wrap64 (a1 - 1))) = j_ := ⟨_, rfl⟩
          replace H : (if 0 ≤ (ji9) then (if (Int.tmod (wrap64 (a0)) (ji7)) ≥ (shl .i64 1 (ji9)) then ((pintleref01_Word.f (wrap64 ((Int.tmod (wrap64 (a0)) (ji7)) - (ji7)))).bind fun t114 => (some t114)) else ((pintleref01_Word.f (Int.tmod (wrap64 (a0)) (ji7))).bind fun t115 => (some t115))) else (none)) = some r := by first | (rw [hji9] at H; exact H) | (simp only [hji9] at H ⊢; exact H)
          by_cases c10 : 0 ≤ (ji9)
          · rw [if_pos c10] at H
            have c10b0 := eq_true c10
            have c10b1 : decide (0 ≤ (ji9)) = true := decide_eq_true c10
            clear c10
            obtain ⟨ji11, hji11⟩ : ∃ j_ : Int, (shl .i64 1 (ji9)) = j_ := ⟨_, rfl⟩
            replace H : (if (Int.tmod (wrap64 (a0)) (ji7)) ≥ (ji11) then ((pintleref01_Word.f (wrap64 ((Int.tmod (wrap64 (a0)) (ji7)) - (ji7)))).bind fun t114 => (some t114)) else ((pintleref01_Word.f (Int.tmod (wrap64 (a0)) (ji7))).bind fun t115 => (some t115))) = some r := by first | (rw [hji11] at H; exact H) | (simp only [hji11] at H ⊢; exact H)
            have hji11_ : (IntKind.i64.wrap (1 * 2 ^ min (ji9).toNat 64)) = ji11 := hji11
            have hji11z : (ji9) ≤ 64 → (IntKind.i64.wrap (1 * 2 ^ (ji9).toNat)) = ji11 := shl_small hji11
            have hji11u : (IntKind.i64.wrap (2 ^ min (ji9).toNat 64)) = ji11 := by have h_ := hji11_; rw [Int.one_mul] at h_; exact h_
            have hji11v : (ji9) ≤ 64 → (IntKind.i64.wrap (2 ^ (ji9).toNat)) = ji11 := fun hle_ => by have h_ := hji11z hle_; rw [Int.one_mul] at h_; exact h_
            have hji11y : (wrap64 (1 * 2 ^ min (ji9).toNat 64)) = ji11 := (i64_w _).symm.trans hji11_
            have hji11x : (ji9) ≤ 64 → (wrap64 (1 * 2 ^ (ji9).toNat)) = ji11 := fun h_ => (i64_w _).symm.trans (hji11z h_)
            by_cases c12 : (Int.tmod (wrap64 (a0)) (ji7)) ≥ (ji11)
            · rw [if_pos c12] at H
              have c12b0 : decide ((ji11) ≤ (Int.tmod (wrap64 (a0)) (ji7))) = true := decide_eq_true c12
              clear c12
              have c13b0 := eq_true (of_decide_eq_true (by first | (with_reducible assumption) | assumption) : 0 ≤ (ji5))
              replace H := Option.bind_eq_some_iff.mp H
              obtain ⟨t114, A150, H⟩ := H
              replace H : (some t114) = some r := H
              have A15 := Aside0.mk A150
              clear A150
              obtain rfl := Option.some.inj H
              go_enter Try.func16, Try.ntmps16
              go_wp2_with (first | ((with_reducible refine gate_callee (f := 23) rfl ?_); refine goesL_ (some 29) rfl rfl Try.func23 (by kernel_rfl) rfl #[.int .i64 (wrap64 ((Int.tmod (wrap64 (a0)) (ji7)) - (ji7)))] rfl (by (try simp only [List.map_toArray, List.map_cons, List.map_nil]); first | done | (simp only [hji7]; rfl) | rfl | (simp only [List.length_drop, List.length_take]; rfl)) ?_; (with_reducible refine (pintleref01_Word.calls (wrap64 ((Int.tmod (wrap64 (a0)) (ji7)) - (ji7))) t114 _ A15.out).mono ?_); rintro e w' ⟨rfl, ⟨nd, rfl⟩⟩; refine ⟨_, rfl, ?_⟩))
              go_ret
              exact ⟨by first | rfl | (simp; done) | (simp only [← hji5, ← hji7, ← hji9, ← hji11] <;> (first | rfl | simp)) | (simp [*]; done), by repeat (first | exact Drawn0.refl _ | apply Drawn0.step)⟩
            · rw [if_neg c12] at H
              have c12b0 : decide ((ji11) ≤ (Int.tmod (wrap64 (a0)) (ji7))) = false := decide_eq_false c12
              clear c12
              replace H := Option.bind_eq_some_iff.mp H
              obtain ⟨t115, A160, H⟩ := H
              replace H : (some t115) = some r := H
              have A16 := Aside0.mk A160
              clear A160
              obtain rfl := Option.some.inj H
              go_enter Try.func16, Try.ntmps16
              go_wp2_with (first | ((with_reducible refine gate_callee (f := 23) rfl ?_); refine goesL_ (some 29) rfl rfl Try.func23 (by kernel_rfl) rfl #[.int .i64 (Int.tmod (wrap64 (a0)) (ji7))] rfl (by (try simp only [List.map_toArray, List.map_cons, List.map_nil]); first | done | (simp only [hji7]; rfl) | rfl | (simp only [List.length_drop, List.length_take]; rfl)) ?_; (with_reducible refine (pintleref01_Word.calls (Int.tmod (wrap64 (a0)) (ji7)) t115 _ A16.out).mono ?_); rintro e w' ⟨rfl, ⟨nd, rfl⟩⟩; refine ⟨_, rfl, ?_⟩))
              go_ret
              exact ⟨by first | rfl | (simp; done) | (simp only [← hji5, ← hji7, ← hji9, ← hji11] <;> (first | rfl | simp)) | (simp [*]; done), by repeat (first | exact Drawn0.refl _ | apply Drawn0.step)⟩
          · rw [if_neg c10] at H
            exact absurd H (by simp)
      · rw [if_neg c6] at H
        exact absurd H (by simp)

/-! ### num_Signed: function 17 -/
def num_Signed.f (a0 : Int) : Option (Int) := some (wrap32 (a0))
set_option maxHeartbeats 8000000 in
set_option maxRecDepth 100000 in
theorem num_Signed.calls (a0 : Int) (r : Int) (w : World) (h : num_Signed.f a0 = some r) :
    Calls Try.prog 17 #[.int .u32 a0] w fun e w' => e = .returned (.int .i32 r) ∧ Drawn0 w w' := by
  have H : (some (wrap32 (a0))) = some r := h
  clear h
  obtain rfl := Option.some.inj H
  go_enter Try.func17, Try.ntmps17
  go_wp2
  go_ret
  exact ⟨by first | rfl | (simp; done) | (simp [*]; done), by repeat (first | exact Drawn0.refl _ | apply Drawn0.step)⟩

/-! ### pintlelaw01_NumSigns: function 9 -/
def pintlelaw01_NumSigns.f (k : Nat) (a0 : Int) (a1 : Int) : Option (Bool) := (num_Sext.f a0 a1).bind fun t116 => ((pintleref01_Sext.f a0 a1).bind fun t117 => (if t116 = t117 then ((num_Signed.f a0).bind fun t118 => ((pintleref01_Signed.f a0).bind fun t119 => (if (wrap64 (t118)) = t119 then ((pintlelaw01_lives.f k).bind fun t120 => (some t120)) else (some false)))) else (some false)))
theorem pintlelaw01_NumSigns.mono : ∀ a0 a1 k, LeO (pintlelaw01_NumSigns.f k a0 a1) (pintlelaw01_NumSigns.f (k + 1) a0 a1) := by
  intro a0 a1 k
  unfold pintlelaw01_NumSigns.f
  repeat' first
      | (with_reducible exact pintlelaw01_lives.mono _)
      | (with_reducible exact LeO.refl _)
      | (with_reducible exact LeO.none _)
      | (with_reducible refine LeO.ite ?_ ?_)
      | (with_reducible refine LeO.bind ?_ (fun _ => ?_))
      | exact pintlelaw01_lives.mono _
      | exact LeO.none _
      | refine LeO.ite ?_ ?_
      | refine LeO.bind ?_ (fun _ => ?_)
set_option maxHeartbeats 8000000 in
set_option maxRecDepth 100000 in
theorem pintlelaw01_NumSigns.calls (k : Nat) (a0 : Int) (a1 : Int) (r : Bool) (w : World) (h : pintlelaw01_NumSigns.f k a0 a1 = some r) :
    Calls Try.prog 9 #[.int .u32 a0, .int .i64 a1] w fun e w' => e = .returned (.bool r) ∧ Drawn0 w w' := by
  have H : ((num_Sext.f a0 a1).bind fun t116 => ((pintleref01_Sext.f a0 a1).bind fun t117 => (if t116 = t117 then ((num_Signed.f a0).bind fun t118 => ((pintleref01_Signed.f a0).bind fun t119 => (if (wrap64 (t118)) = t119 then ((pintlelaw01_lives.f k).bind fun t120 => (some t120)) else (some false)))) else (some false)))) = some r := h
  clear h
  replace H := Option.bind_eq_some_iff.mp H
  obtain ⟨t116, A30, H⟩ := H
  replace H : ((pintleref01_Sext.f a0 a1).bind fun t117 => (if t116 = t117 then ((num_Signed.f a0).bind fun t118 => ((pintleref01_Signed.f a0).bind fun t119 => (if (wrap64 (t118)) = t119 then ((pintlelaw01_lives.f k).bind fun t120 => (some t120)) else (some false)))) else (some false))) = some r := H
  have A3 := Aside0.mk A30
  clear A30
  replace H := Option.bind_eq_some_iff.mp H
  obtain ⟨t117, A40, H⟩ := H
  replace H : (if t116 = t117 then ((num_Signed.f a0).bind fun t118 => ((pintleref01_Signed.f a0).bind fun t119 => (if (wrap64 (t118)) = t119 then ((pintlelaw01_lives.f k).bind fun t120 => (some t120)) else (some false)))) else (some false)) = some r := H
  have A4 := Aside0.mk A40
  clear A40
  by_cases c5 : t116 = t117
  · rw [if_pos c5] at H
    have c5b0 : (t116 == t117) = true := beq_iff_eq.mpr c5
    have c5b1 : (t116 != t117) = false := bne_eq_false_iff_eq.mpr c5
    clear c5
    replace H := Option.bind_eq_some_iff.mp H
    obtain ⟨t118, A60, H⟩ := H
    replace H : ((pintleref01_Signed.f a0).bind fun t119 => (if (wrap64 (t118)) = t119 then ((pintlelaw01_lives.f k).bind fun t120 => (some t120)) else (some false))) = some r := H
    have A6 := Aside0.mk A60
    clear A60
    replace H := Option.bind_eq_some_iff.mp H
    obtain ⟨t119, A70, H⟩ := H
    replace H : (if (wrap64 (t118)) = t119 then ((pintlelaw01_lives.f k).bind fun t120 => (some t120)) else (some false)) = some r := H
    have A7 := Aside0.mk A70
    clear A70
    by_cases c8 : (wrap64 (t118)) = t119
    · rw [if_pos c8] at H
      have c8b0 : ((wrap64 (t118)) == t119) = true := beq_iff_eq.mpr c8
      have c8b1 : ((wrap64 (t118)) != t119) = false := bne_eq_false_iff_eq.mpr c8
      clear c8
      replace H := Option.bind_eq_some_iff.mp H
      obtain ⟨t120, A90, H⟩ := H
      replace H : (some t120) = some r := H
      have A9 := Aside0.mk A90
      clear A90
      obtain rfl := Option.some.inj H
      go_enter Try.func9, Try.ntmps9
      go_wp2_with (first | ((with_reducible refine gate_callee (f := 15) rfl ?_); refine goesL_ (some 7) rfl rfl Try.func15 (by kernel_rfl) rfl #[.int .u32 a0, .int .i64 a1] rfl (by (try simp only [List.map_toArray, List.map_cons, List.map_nil]); first | done | rfl | (simp only [List.length_drop, List.length_take]; rfl)) ?_; (with_reducible refine (num_Sext.calls a0 a1 t116 _ A3.out).mono ?_); rintro e w' ⟨rfl, ⟨nd, rfl⟩⟩; refine ⟨_, rfl, ?_⟩) | ((with_reducible refine gate_callee (f := 16) rfl ?_); refine goesL_ (some 10) rfl rfl Try.func16 (by kernel_rfl) rfl #[.int .u32 a0, .int .i64 a1] rfl (by (try simp only [List.map_toArray, List.map_cons, List.map_nil]); first | done | rfl | (simp only [List.length_drop, List.length_take]; rfl)) ?_; (with_reducible refine (pintleref01_Sext.calls a0 a1 t117 _ A4.out).mono ?_); rintro e w' ⟨rfl, ⟨nd, rfl⟩⟩; refine ⟨_, rfl, ?_⟩) | (go_at_call 17; (with_reducible refine (num_Signed.calls a0 t118 _ A6.out).mono ?_); rintro e w' ⟨rfl, ⟨nd, rfl⟩⟩) | (go_at_call 14; (with_reducible refine (pintleref01_Signed.calls a0 t119 _ A7.out).mono ?_); rintro e w' ⟨rfl, ⟨nd, rfl⟩⟩) | (go_at_call 11; (with_reducible refine (pintlelaw01_lives.calls k  t120 _ A9.out).mono ?_); rintro e w' ⟨rfl, ⟨nd, rfl⟩⟩))
      go_ret
      exact ⟨by first | rfl | (simp; done) | (simp [*]; done), by repeat (first | exact Drawn0.refl _ | apply Drawn0.step)⟩
    · rw [if_neg c8] at H
      have c8b0 : ((wrap64 (t118)) == t119) = false := beq_eq_false_iff_ne.mpr c8
      have c8b1 : ((wrap64 (t118)) != t119) = true := bne_iff_ne.mpr c8
      obtain rfl := Option.some.inj H
      go_enter Try.func9, Try.ntmps9
      go_wp2_with (first | ((with_reducible refine gate_callee (f := 15) rfl ?_); refine goesL_ (some 7) rfl rfl Try.func15 (by kernel_rfl) rfl #[.int .u32 a0, .int .i64 a1] rfl (by (try simp only [List.map_toArray, List.map_cons, List.map_nil]); first | done | rfl | (simp only [List.length_drop, List.length_take]; rfl)) ?_; (with_reducible refine (num_Sext.calls a0 a1 t116 _ A3.out).mono ?_); rintro e w' ⟨rfl, ⟨nd, rfl⟩⟩; refine ⟨_, rfl, ?_⟩) | ((with_reducible refine gate_callee (f := 16) rfl ?_); refine goesL_ (some 10) rfl rfl Try.func16 (by kernel_rfl) rfl #[.int .u32 a0, .int .i64 a1] rfl (by (try simp only [List.map_toArray, List.map_cons, List.map_nil]); first | done | rfl | (simp only [List.length_drop, List.length_take]; rfl)) ?_; (with_reducible refine (pintleref01_Sext.calls a0 a1 t117 _ A4.out).mono ?_); rintro e w' ⟨rfl, ⟨nd, rfl⟩⟩; refine ⟨_, rfl, ?_⟩) | (go_at_call 17; (with_reducible refine (num_Signed.calls a0 t118 _ A6.out).mono ?_); rintro e w' ⟨rfl, ⟨nd, rfl⟩⟩) | (go_at_call 14; (with_reducible refine (pintleref01_Signed.calls a0 t119 _ A7.out).mono ?_); rintro e w' ⟨rfl, ⟨nd, rfl⟩⟩))
      go_ret
      exact ⟨by first | rfl | (simp; done) | (simp [*]; done), by repeat (first | exact Drawn0.refl _ | apply Drawn0.step)⟩
  · rw [if_neg c5] at H
    have c5b0 : (t116 == t117) = false := beq_eq_false_iff_ne.mpr c5
    have c5b1 : (t116 != t117) = true := bne_iff_ne.mpr c5
    obtain rfl := Option.some.inj H
    go_enter Try.func9, Try.ntmps9
    go_wp2_with (first | ((with_reducible refine gate_callee (f := 15) rfl ?_); refine goesL_ (some 7) rfl rfl Try.func15 (by kernel_rfl) rfl #[.int .u32 a0, .int .i64 a1] rfl (by (try simp only [List.map_toArray, List.map_cons, List.map_nil]); first | done | rfl | (simp only [List.length_drop, List.length_take]; rfl)) ?_; (with_reducible refine (num_Sext.calls a0 a1 t116 _ A3.out).mono ?_); rintro e w' ⟨rfl, ⟨nd, rfl⟩⟩; refine ⟨_, rfl, ?_⟩) | ((with_reducible refine gate_callee (f := 16) rfl ?_); refine goesL_ (some 10) rfl rfl Try.func16 (by kernel_rfl) rfl #[.int .u32 a0, .int .i64 a1] rfl (by (try simp only [List.map_toArray, List.map_cons, List.map_nil]); first | done | rfl | (simp only [List.length_drop, List.length_take]; rfl)) ?_; (with_reducible refine (pintleref01_Sext.calls a0 a1 t117 _ A4.out).mono ?_); rintro e w' ⟨rfl, ⟨nd, rfl⟩⟩; refine ⟨_, rfl, ?_⟩))
    go_ret
    exact ⟨by first | rfl | (simp; done) | (simp [*]; done), by repeat (first | exact Drawn0.refl _ | apply Drawn0.step)⟩

/-- THE ONE PURE STATEMENT of pintlelaw01_NumSigns: yours. -/
def pintlelaw01_NumSigns.Pure : Prop := ∀ (a0 : Int) (a1 : Int), (Lit.int .u32 a0).wf = true → (Lit.int .i64 a1).wf = true → ∃ k, pintlelaw01_NumSigns.f k a0 a1 = some true
theorem pintlelaw01_NumSigns.walk (P : pintlelaw01_NumSigns.Pure) (a0 : Int) (a1 : Int) (w : World) (w0 : (Lit.int .u32 a0).wf = true) (w1 : (Lit.int .i64 a1).wf = true) :
    Calls Try.prog 9 #[.int .u32 a0, .int .i64 a1] w fun e w' => e = .returned (.bool true) ∧ Below w.heap.size w w' := by
  obtain ⟨k, h⟩ := P a0 a1 w0 w1
  refine (pintlelaw01_NumSigns.calls k a0 a1 true w h).mono ?_
  rintro e w' ⟨rfl, hd⟩
  exact ⟨rfl, hd.below⟩

end Go.Proofs.Ytijacghgfalipaa.PNumSigns
