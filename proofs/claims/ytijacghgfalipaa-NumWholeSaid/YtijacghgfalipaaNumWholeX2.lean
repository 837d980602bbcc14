/- Plain functions with the same answers as the program's, each with its proof: as the kit prints them, but for two sums told in another form. -/
import Derived.Test.YtijacghgfalipaaPNumWholex0
import Derived.Test.YtijacghgfalipaaPNumWholex1
namespace Go.Proofs.Ytijacghgfalipaa.PNumWhole
open Go.RowKit Go.Proofs.YtijacghgfalipaaW.PrintWords Go.Proofs.YtijacghgfalipaaW.PrintLast Go.Proofs.YtijacghgfalipaaW.PrintMore
attribute [local go_sem] max2_int min2_int max_two min_two max_three min_three max_four min_four   -- for this text's walks alone
set_option linter.unusedVariables false
set_option linter.unusedSimpArgs false

/-! ### pintlelaw01_NumWhole: function 7 -/
def pintlelaw01_NumWhole.f (k : Nat) (a0 : Int) (a1 : Int) : Option (Bool) := (pintlelaw01_told.f k 16 a0 a1).bind fun t116 => ((pintlelaw01_told.f k 18 a0 a1).bind fun t117 => ((pintlelaw01_told.f k 15 a0 a1).bind fun t118 => ((pintlelaw01_told.f k 17 a0 a1).bind fun t119 => (if ((((t116 * a1) % 4294967296) + t117) % 4294967296) = a0 then (if ((((t118 * a1) % 4294967296) + t119) % 4294967296) = a0 then ((pintlelaw01_lives.f k).bind fun t120 => (some t120)) else (some false)) else (some false)))))
theorem pintlelaw01_NumWhole.mono : ∀ a0 a1 k, LeO (pintlelaw01_NumWhole.f k a0 a1) (pintlelaw01_NumWhole.f (k + 1) a0 a1) := by
  intro a0 a1 k
  unfold pintlelaw01_NumWhole.f
  repeat' first
      | (with_reducible exact pintlelaw01_lives.mono _)
      | (with_reducible exact pintlelaw01_told.mono _ _ _ _)
      | (with_reducible exact LeO.refl _)
      | (with_reducible exact LeO.none _)
      | (with_reducible refine LeO.ite ?_ ?_)
      | (with_reducible refine LeO.bind ?_ (fun _ => ?_))
      | exact pintlelaw01_lives.mono _
      | exact pintlelaw01_told.mono _ _ _ _
      | exact LeO.none _
      | refine LeO.ite ?_ ?_
      | refine LeO.bind ?_ (fun _ => ?_)
set_option maxHeartbeats 8000000 in
set_option maxRecDepth 100000 in
theorem pintlelaw01_NumWhole.calls (k : Nat) (a0 : Int) (a1 : Int) (r : Bool) (w : World) (h : pintlelaw01_NumWhole.f k a0 a1 = some r) :
    Calls Try.prog 7 #[.int .u32 a0, .int .u32 a1] w fun e w' => e = .returned (.bool r) ∧ Drawn0 w w' := by
  have H : ((pintlelaw01_told.f k 16 a0 a1).bind fun t116 => ((pintlelaw01_told.f k 18 a0 a1).bind fun t117 => ((pintlelaw01_told.f k 15 a0 a1).bind fun t118 => ((pintlelaw01_told.f k 17 a0 a1).bind fun t119 => (if ((((t116 * a1) % 4294967296) + t117) % 4294967296) = a0 then (if ((((t118 * a1) % 4294967296) + t119) % 4294967296) = a0 then ((pintlelaw01_lives.f k).bind fun t120 => (some t120)) else (some false)) else (some false)))))) = some r := h
  clear h
  replace H := Option.bind_eq_some_iff.mp H
  obtain ⟨t116, A30, H⟩ := H
  replace H : ((pintlelaw01_told.f k 18 a0 a1).bind fun t117 => ((pintlelaw01_told.f k 15 a0 a1).bind fun t118 => ((pintlelaw01_told.f k 17 a0 a1).bind fun t119 => (if ((((t116 * a1) % 4294967296) + t117) % 4294967296) = a0 then (if ((((t118 * a1) % 4294967296) + t119) % 4294967296) = a0 then ((pintlelaw01_lives.f k).bind fun t120 => (some t120)) else (some false)) else (some false))))) = some r := H
  have A3 := Aside0.mk A30
  clear A30
  replace H := Option.bind_eq_some_iff.mp H
  obtain ⟨t117, A40, H⟩ := H
  replace H : ((pintlelaw01_told.f k 15 a0 a1).bind fun t118 => ((pintlelaw01_told.f k 17 a0 a1).bind fun t119 => (if ((((t116 * a1) % 4294967296) + t117) % 4294967296) = a0 then (if ((((t118 * a1) % 4294967296) + t119) % 4294967296) = a0 then ((pintlelaw01_lives.f k).bind fun t120 => (some t120)) else (some false)) else (some false)))) = some r := H
  have A4 := Aside0.mk A40
  clear A40
  replace H := Option.bind_eq_some_iff.mp H
  obtain ⟨t118, A50, H⟩ := H
  replace H : ((pintlelaw01_told.f k 17 a0 a1).bind fun t119 => (if ((((t116 * a1) % 4294967296) + t117) % 4294967296) = a0 then (if ((((t118 * a1) % 4294967296) + t119) % 4294967296) = a0 then ((pintlelaw01_lives.f k).bind fun t120 => (some t120)) else (some false)) else (some false))) = some r := H
  have A5 := Aside0.mk A50
  clear A50
  replace H := Option.bind_eq_some_iff.mp H
  obtain ⟨t119, A60, H⟩ := H
  replace H : (if ((((t116 * a1) % 4294967296) + t117) % 4294967296) = a0 then (if ((((t118 * a1) % 4294967296) + t119) % 4294967296) = a0 then ((pintlelaw01_lives.f k).bind fun t120 => (some t120)) else (some false)) else (some false)) = some r := H
  have A6 := Aside0.mk A60
  clear A60
  by_cases c7 : ((((t116 * a1) % 4294967296) + t117) % 4294967296) = a0
  · rw [if_pos c7] at H
    have c7b0 : (((((t116 * a1) % 4294967296) + t117) % 4294967296) == a0) = true := beq_iff_eq.mpr c7
    have c7b1 : (((((t116 * a1) % 4294967296) + t117) % 4294967296) != a0) = false := bne_eq_false_iff_eq.mpr c7
    have c7d0 : ((t116 * a1 + t117) % 4294967296 == a0) = true := by rw [← Int.emod_add_emod]; exact c7b0
    have c7d1 : ((t116 * a1 + t117) % 4294967296 != a0) = false := by rw [← Int.emod_add_emod]; exact c7b1
    clear c7
    by_cases c8 : ((((t118 * a1) % 4294967296) + t119) % 4294967296) = a0
    · rw [if_pos c8] at H
      have c8b0 : (((((t118 * a1) % 4294967296) + t119) % 4294967296) == a0) = true := beq_iff_eq.mpr c8
      have c8b1 : (((((t118 * a1) % 4294967296) + t119) % 4294967296) != a0) = false := bne_eq_false_iff_eq.mpr c8
      have c8d0 : ((t118 * a1 + t119) % 4294967296 == a0) = true := by rw [← Int.emod_add_emod]; exact c8b0
      have c8d1 : ((t118 * a1 + t119) % 4294967296 != a0) = false := by rw [← Int.emod_add_emod]; exact c8b1
      clear c8
      replace H := Option.bind_eq_some_iff.mp H
      obtain ⟨t120, A90, H⟩ := H
      replace H : (some t120) = some r := H
      have A9 := Aside0.mk A90
      clear A90
      obtain rfl := Option.some.inj H
      go_enter Try.func7, Try.ntmps7
      go_wp2_with (first | ((with_reducible refine gate_callee (f := 13) rfl ?_); refine goesL_ (some 9) rfl rfl Try.func13 (by kernel_rfl) rfl #[.int .i64 16, .int .u32 a0, .int .u32 a1] rfl (by (try simp only [List.map_toArray, List.map_cons, List.map_nil]); first | done | rfl | (simp only [List.length_drop, List.length_take]; rfl)) ?_; (with_reducible refine (pintlelaw01_told.calls k 16 a0 a1 t116 _ A3.out).mono ?_); rintro e w' ⟨rfl, ⟨nd, rfl⟩⟩; refine ⟨_, rfl, ?_⟩) | ((with_reducible refine gate_callee (f := 13) rfl ?_); refine goesL_ (some 14) rfl rfl Try.func13 (by kernel_rfl) rfl #[.int .i64 18, .int .u32 a0, .int .u32 a1] rfl (by (try simp only [List.map_toArray, List.map_cons, List.map_nil]); first | done | rfl | (simp only [List.length_drop, List.length_take]; rfl)) ?_; (with_reducible refine (pintlelaw01_told.calls k 18 a0 a1 t117 _ A4.out).mono ?_); rintro e w' ⟨rfl, ⟨nd, rfl⟩⟩; refine ⟨_, rfl, ?_⟩) | ((with_reducible refine gate_callee (f := 13) rfl ?_); refine goesL_ (some 18) rfl rfl Try.func13 (by kernel_rfl) rfl #[.int .i64 15, .int .u32 a0, .int .u32 a1] rfl (by (try simp only [List.map_toArray, List.map_cons, List.map_nil]); first | done | rfl | (simp only [List.length_drop, List.length_take]; rfl)) ?_; (with_reducible refine (pintlelaw01_told.calls k 15 a0 a1 t118 _ A5.out).mono ?_); rintro e w' ⟨rfl, ⟨nd, rfl⟩⟩; refine ⟨_, rfl, ?_⟩) | ((with_reducible refine gate_callee (f := 13) rfl ?_); refine goesL_ (some 23) rfl rfl Try.func13 (by kernel_rfl) rfl #[.int .i64 17, .int .u32 a0, .int .u32 a1] rfl (by (try simp only [List.map_toArray, List.map_cons, List.map_nil]); first | done | rfl | (simp only [List.length_drop, List.length_take]; rfl)) ?_; (with_reducible refine (pintlelaw01_told.calls k 17 a0 a1 t119 _ A6.out).mono ?_); rintro e w' ⟨rfl, ⟨nd, rfl⟩⟩; refine ⟨_, rfl, ?_⟩) | (go_at_call 11; (with_reducible refine (pintlelaw01_lives.calls k  t120 _ A9.out).mono ?_); rintro e w' ⟨rfl, ⟨nd, rfl⟩⟩))
      go_ret
      exact ⟨by first | rfl | (simp; done) | (simp [*]; done), by repeat (first | exact Drawn0.refl _ | apply Drawn0.step)⟩
    · rw [if_neg c8] at H
      have c8b0 : (((((t118 * a1) % 4294967296) + t119) % 4294967296) == a0) = false := beq_eq_false_iff_ne.mpr c8
      have c8b1 : (((((t118 * a1) % 4294967296) + t119) % 4294967296) != a0) = true := bne_iff_ne.mpr c8
      have c8d0 : ((t118 * a1 + t119) % 4294967296 == a0) = false := by rw [← Int.emod_add_emod]; exact c8b0
      have c8d1 : ((t118 * a1 + t119) % 4294967296 != a0) = true := by rw [← Int.emod_add_emod]; exact c8b1
      obtain rfl := Option.some.inj H
      go_enter Try.func7, Try.ntmps7
      go_wp2_with (first | ((with_reducible refine gate_callee (f := 13) rfl ?_); refine goesL_ (some 9) rfl rfl Try.func13 (by kernel_rfl) rfl #[.int .i64 16, .int .u32 a0, .int .u32 a1] rfl (by (try simp only [List.map_toArray, List.map_cons, List.map_nil]); first | done | rfl | (simp only [List.length_drop, List.length_take]; rfl)) ?_; (with_reducible refine (pintlelaw01_told.calls k 16 a0 a1 t116 _ A3.out).mono ?_); rintro e w' ⟨rfl, ⟨nd, rfl⟩⟩; refine ⟨_, rfl, ?_⟩) | ((with_reducible refine gate_callee (f := 13) rfl ?_); refine goesL_ (some 14) rfl rfl Try.func13 (by kernel_rfl) rfl #[.int .i64 18, .int .u32 a0, .int .u32 a1] rfl (by (try simp only [List.map_toArray, List.map_cons, List.map_nil]); first | done | rfl | (simp only [List.length_drop, List.length_take]; rfl)) ?_; (with_reducible refine (pintlelaw01_told.calls k 18 a0 a1 t117 _ A4.out).mono ?_); rintro e w' ⟨rfl, ⟨nd, rfl⟩⟩; refine ⟨_, rfl, ?_⟩) | ((with_reducible refine gate_callee (f := 13) rfl ?_); refine goesL_ (some 18) rfl rfl Try.func13 (by kernel_rfl) rfl #[.int .i64 15, .int .u32 a0, .int .u32 a1] rfl (by (try simp only [List.map_toArray, List.map_cons, List.map_nil]); first | done | rfl | (simp only [List.length_drop, List.length_take]; rfl)) ?_; (with_reducible refine (pintlelaw01_told.calls k 15 a0 a1 t118 _ A5.out).mono ?_); rintro e w' ⟨rfl, ⟨nd, rfl⟩⟩; refine ⟨_, rfl, ?_⟩) | ((with_reducible refine gate_callee (f := 13) rfl ?_); refine goesL_ (some 23) rfl rfl Try.func13 (by kernel_rfl) rfl #[.int .i64 17, .int .u32 a0, .int .u32 a1] rfl (by (try simp only [List.map_toArray, List.map_cons, List.map_nil]); first | done | rfl | (simp only [List.length_drop, List.length_take]; rfl)) ?_; (with_reducible refine (pintlelaw01_told.calls k 17 a0 a1 t119 _ A6.out).mono ?_); rintro e w' ⟨rfl, ⟨nd, rfl⟩⟩; refine ⟨_, rfl, ?_⟩))
      go_ret
      exact ⟨by first | rfl | (simp; done) | (simp [*]; done), by repeat (first | exact Drawn0.refl _ | apply Drawn0.step)⟩
  · rw [if_neg c7] at H
    have c7b0 : (((((t116 * a1) % 4294967296) + t117) % 4294967296) == a0) = false := beq_eq_false_iff_ne.mpr c7
    have c7b1 : (((((t116 * a1) % 4294967296) + t117) % 4294967296) != a0) = true := bne_iff_ne.mpr c7
    have c7d0 : ((t116 * a1 + t117) % 4294967296 == a0) = false := by rw [← Int.emod_add_emod]; exact c7b0
    have c7d1 : ((t116 * a1 + t117) % 4294967296 != a0) = true := by rw [← Int.emod_add_emod]; exact c7b1
    obtain rfl := Option.some.inj H
    go_enter Try.func7, Try.ntmps7
    go_wp2_with (first | ((with_reducible refine gate_callee (f := 13) rfl ?_); refine goesL_ (some 9) rfl rfl Try.func13 (by kernel_rfl) rfl #[.int .i64 16, .int .u32 a0, .int .u32 a1] rfl (by (try simp only [List.map_toArray, List.map_cons, List.map_nil]); first | done | rfl | (simp only [List.length_drop, List.length_take]; rfl)) ?_; (with_reducible refine (pintlelaw01_told.calls k 16 a0 a1 t116 _ A3.out).mono ?_); rintro e w' ⟨rfl, ⟨nd, rfl⟩⟩; refine ⟨_, rfl, ?_⟩) | ((with_reducible refine gate_callee (f := 13) rfl ?_); refine goesL_ (some 14) rfl rfl Try.func13 (by kernel_rfl) rfl #[.int .i64 18, .int .u32 a0, .int .u32 a1] rfl (by (try simp only [List.map_toArray, List.map_cons, List.map_nil]); first | done | rfl | (simp only [List.length_drop, List.length_take]; rfl)) ?_; (with_reducible refine (pintlelaw01_told.calls k 18 a0 a1 t117 _ A4.out).mono ?_); rintro e w' ⟨rfl, ⟨nd, rfl⟩⟩; refine ⟨_, rfl, ?_⟩) | ((with_reducible refine gate_callee (f := 13) rfl ?_); refine goesL_ (some 18) rfl rfl Try.func13 (by kernel_rfl) rfl #[.int .i64 15, .int .u32 a0, .int .u32 a1] rfl (by (try simp only [List.map_toArray, List.map_cons, List.map_nil]); first | done | rfl | (simp only [List.length_drop, List.length_take]; rfl)) ?_; (with_reducible refine (pintlelaw01_told.calls k 15 a0 a1 t118 _ A5.out).mono ?_); rintro e w' ⟨rfl, ⟨nd, rfl⟩⟩; refine ⟨_, rfl, ?_⟩) | ((with_reducible refine gate_callee (f := 13) rfl ?_); refine goesL_ (some 23) rfl rfl Try.func13 (by kernel_rfl) rfl #[.int .i64 17, .int .u32 a0, .int .u32 a1] rfl (by (try simp only [List.map_toArray, List.map_cons, List.map_nil]); first | done | rfl | (simp only [List.length_drop, List.length_take]; rfl)) ?_; (with_reducible refine (pintlelaw01_told.calls k 17 a0 a1 t119 _ A6.out).mono ?_); rintro e w' ⟨rfl, ⟨nd, rfl⟩⟩; refine ⟨_, rfl, ?_⟩))
    go_ret
    exact ⟨by first | rfl | (simp; done) | (simp [*]; done), by repeat (first | exact Drawn0.refl _ | apply Drawn0.step)⟩

/-- THE ONE PURE STATEMENT of pintlelaw01_NumWhole: yours. -/
def pintlelaw01_NumWhole.Pure : Prop := ∀ (a0 : Int) (a1 : Int), (Lit.int .u32 a0).wf = true → (Lit.int .u32 a1).wf = true → ∃ k, pintlelaw01_NumWhole.f k a0 a1 = some true
theorem pintlelaw01_NumWhole.walk (P : pintlelaw01_NumWhole.Pure) (a0 : Int) (a1 : Int) (w : World) (w0 : (Lit.int .u32 a0).wf = true) (w1 : (Lit.int .u32 a1).wf = true) :
    Calls Try.prog 7 #[.int .u32 a0, .int .u32 a1] w fun e w' => e = .returned (.bool true) ∧ Below w.heap.size w w' := by
  obtain ⟨k, h⟩ := P a0 a1 w0 w1
  refine (pintlelaw01_NumWhole.calls k a0 a1 true w h).mono ?_
  rintro e w' ⟨rfl, hd⟩
  exact ⟨rfl, hd.below⟩

end Go.Proofs.Ytijacghgfalipaa.PNumWhole
