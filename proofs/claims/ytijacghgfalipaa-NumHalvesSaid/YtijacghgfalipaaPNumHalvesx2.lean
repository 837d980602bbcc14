-- PRINTED BY print.sh 35421559b90ae4d0a3588c463048766b98c2df88dd9212a6774a882060cdf62d: not written by this session
import Derived.Test.YtijacghgfalipaaPNumHalvesx0
import Derived.Test.YtijacghgfalipaaPNumHalvesx1
namespace Go.Proofs.Ytijacghgfalipaa.PNumHalves
open Go.RowKit Go.Proofs.YtijacghgfalipaaW.PrintWords Go.Proofs.YtijacghgfalipaaW.PrintLast Go.Proofs.YtijacghgfalipaaW.PrintMore
attribute [local go_sem] max2_int min2_int max_two min_two max_three min_three max_four min_four   -- for this text's walks alone
set_option linter.unusedVariables false
set_option linter.unusedSimpArgs false

/-! ### pintlelaw01_NumHalves: function 8 -/
def pintlelaw01_NumHalves.f (k : Nat) (a0 : Int) (a1 : Int) : Option (Bool) := (pintlelaw01_told.f k 12 a0 a1).bind fun t116 => ((pintleref01_Signed.f t116).bind fun t117 => ((pintlelaw01_told.f k 11 a0 a1).bind fun t118 => ((pintlelaw01_told.f k 14 a0 a1).bind fun t119 => ((pintlelaw01_told.f k 11 a0 a1).bind fun t120 => ((pintleref01_Signed.f a0).bind fun t121 => ((pintleref01_Signed.f a1).bind fun t122 => (if (wrap64 ((wrap64 (t117 * 4294967296)) + (wrap64 (t118)))) = (wrap64 (t121 * t122)) then (if (IntKind.u64.wrap ((IntKind.u64.wrap ((IntKind.u64.wrap (t119)) * 4294967296)) + (IntKind.u64.wrap (t120)))) = (IntKind.u64.wrap ((IntKind.u64.wrap (a0)) * (IntKind.u64.wrap (a1)))) then ((pintlelaw01_lives.f k).bind fun t123 => (some t123)) else (some false)) else (some false))))))))
theorem pintlelaw01_NumHalves.mono : ∀ a0 a1 k, LeO (pintlelaw01_NumHalves.f k a0 a1) (pintlelaw01_NumHalves.f (k + 1) a0 a1) := by
  intro a0 a1 k
  unfold pintlelaw01_NumHalves.f
  repeat' first
      | (with_reducible exact pintlelaw01_lives.mono _)
      | (with_reducible exact pintlelaw01_told.mono _ _ _ _)
      | (with_reducible exact LeO.refl _)
      | (with_reducible exact LeO.none _)
      | (with_reducible refine LeO.ite ?_ ?_)
      | (with_reducible refine LeO.bind ?_ (fun _ => ?_))
      | exact pintlelaw01_lives.mono _
      | exact pintlelaw01_told.mono _ _ _ _
      | exact LeO.none _
      | refine LeO.ite ?_ ?_
      | refine LeO.bind ?_ (fun _ => ?_)
set_option maxHeartbeats 8000000 in
set_option maxRecDepth 100000 in
theorem pintlelaw01_NumHalves.calls (k : Nat) (a0 : Int) (a1 : Int) (r : Bool) (w : World) (h : pintlelaw01_NumHalves.f k a0 a1 = some r) :
    Calls Try.prog 8 #[.int .u32 a0, .int .u32 a1] w fun e w' => e = .returned (.bool r) ∧ Drawn0 w w' := by
  have H : ((pintlelaw01_told.f k 12 a0 a1).bind fun t116 => ((pintleref01_Signed.f t116).bind fun t117 => ((pintlelaw01_told.f k 11 a0 a1).bind fun t118 => ((pintlelaw01_told.f k 14 a0 a1).bind fun t119 => ((pintlelaw01_told.f k 11 a0 a1).bind fun t120 => ((pintleref01_Signed.f a0).bind fun t121 => ((pintleref01_Signed.f a1).bind fun t122 => (if (wrap64 ((wrap64 (t117 * 4294967296)) + (wrap64 (t118)))) = (wrap64 (t121 * t122)) then (if (IntKind.u64.wrap ((IntKind.u64.wrap ((IntKind.u64.wrap (t119)) * 4294967296)) + (IntKind.u64.wrap (t120)))) = (IntKind.u64.wrap ((IntKind.u64.wrap (a0)) * (IntKind.u64.wrap (a1)))) then ((pintlelaw01_lives.f k).bind fun t123 => (some t123)) else (some false)) else (some false))))))))) = some r := h
  clear h
  replace H := Option.bind_eq_some_iff.mp H
  obtain ⟨t116, A30, H⟩ := H
  replace H : ((pintleref01_Signed.f t116).bind fun t117 => ((pintlelaw01_told.f k 11 a0 a1).bind fun t118 => ((pintlelaw01_told.f k 14 a0 a1).bind fun t119 => ((pintlelaw01_told.f k 11 a0 a1).bind fun t120 => ((pintleref01_Signed.f a0).bind fun t121 => ((pintleref01_Signed.f a1).bind fun t122 => (if (wrap64 ((wrap64 (t117 * 4294967296)) + (wrap64 (t118)))) = (wrap64 (t121 * t122)) then (if (IntKind.u64.wrap ((IntKind.u64.wrap ((IntKind.u64.wrap (t119)) * 4294967296)) + (IntKind.u64.wrap (t120)))) = (IntKind.u64.wrap ((IntKind.u64.wrap (a0)) * (IntKind.u64.wrap (a1)))) then ((pintlelaw01_lives.f k).bind fun t123 => (some t123)) else (some false)) else (some false)))))))) = some r := H
  have A3 := Aside0.mk A30
  clear A30
  replace H := Option.bind_eq_some_iff.mp H
  obtain ⟨t117, A40, H⟩ := H
  replace H : ((pintlelaw01_told.f k 11 a0 a1).bind fun t118 => ((pintlelaw01_told.f k 14 a0 a1).bind fun t119 => ((pintlelaw01_told.f k 11 a0 a1).bind fun t120 => ((pintleref01_Signed.f a0).bind fun t121 => ((pintleref01_Signed.f a1).bind fun t122 => (if (wrap64 ((wrap64 (t117 * 4294967296)) + (wrap64 (t118)))) = (wrap64 (t121 * t122)) then (if (IntKind.u64.wrap ((IntKind.u64.wrap ((IntKind.u64.wrap (t119)) * 4294967296)) + (IntKind.u64.wrap (t120)))) = (IntKind.u64.wrap ((IntKind.u64.wrap (a0)) * (IntKind.u64.wrap (a1)))) then ((pintlelaw01_lives.f k).bind fun t123 => (some t123)) else (some false)) else (some false))))))) = some r := H
  have A4 := Aside0.mk A40
  clear A40
  replace H := Option.bind_eq_some_iff.mp H
  obtain ⟨t118, A50, H⟩ := H
  replace H : ((pintlelaw01_told.f k 14 a0 a1).bind fun t119 => ((pintlelaw01_told.f k 11 a0 a1).bind fun t120 => ((pintleref01_Signed.f a0).bind fun t121 => ((pintleref01_Signed.f a1).bind fun t122 => (if (wrap64 ((wrap64 (t117 * 4294967296)) + (wrap64 (t118)))) = (wrap64 (t121 * t122)) then (if (IntKind.u64.wrap ((IntKind.u64.wrap ((IntKind.u64.wrap (t119)) * 4294967296)) + (IntKind.u64.wrap (t120)))) = (IntKind.u64.wrap ((IntKind.u64.wrap (a0)) * (IntKind.u64.wrap (a1)))) then ((pintlelaw01_lives.f k).bind fun t123 => (some t123)) else (some false)) else (some false)))))) = some r := H
  have A5 := Aside0.mk A50
  clear A50
  replace H := Option.bind_eq_some_iff.mp H
  obtain ⟨t119, A60, H⟩ := H
  replace H : ((pintlelaw01_told.f k 11 a0 a1).bind fun t120 => ((pintleref01_Signed.f a0).bind fun t121 => ((pintleref01_Signed.f a1).bind fun t122 => (if (wrap64 ((wrap64 (t117 * 4294967296)) + (wrap64 (t118)))) = (wrap64 (t121 * t122)) then (if (IntKind.u64.wrap ((IntKind.u64.wrap ((IntKind.u64.wrap (t119)) * 4294967296)) + (IntKind.u64.wrap (t120)))) = (IntKind.u64.wrap ((IntKind.u64.wrap (a0)) * (IntKind.u64.wrap (a1)))) then ((pintlelaw01_lives.f k).bind fun t123 => (some t123)) else (some false)) else (some false))))) = some r := H
  have A6 := Aside0.mk A60
  clear A60
  replace H := Option.bind_eq_some_iff.mp H
  obtain ⟨t120, A70, H⟩ := H
  replace H : ((pintleref01_Signed.f a0).bind fun t121 => ((pintleref01_Signed.f a1).bind fun t122 => (if (wrap64 ((wrap64 (t117 * 4294967296)) + (wrap64 (t118)))) = (wrap64 (t121 * t122)) then (if (IntKind.u64.wrap ((IntKind.u64.wrap ((IntKind.u64.wrap (t119)) * 4294967296)) + (IntKind.u64.wrap (t120)))) = (IntKind.u64.wrap ((IntKind.u64.wrap (a0)) * (IntKind.u64.wrap (a1)))) then ((pintlelaw01_lives.f k).bind fun t123 => (some t123)) else (some false)) else (some false)))) = some r := H
  have A7 := Aside0.mk A70
  clear A70
  replace H := Option.bind_eq_some_iff.mp H
  obtain ⟨t121, A80, H⟩ := H
  replace H : ((pintleref01_Signed.f a1).bind fun t122 => (if (wrap64 ((wrap64 (t117 * 4294967296)) + (wrap64 (t118)))) = (wrap64 (t121 * t122)) then (if (IntKind.u64.wrap ((IntKind.u64.wrap ((IntKind.u64.wrap (t119)) * 4294967296)) + (IntKind.u64.wrap (t120)))) = (IntKind.u64.wrap ((IntKind.u64.wrap (a0)) * (IntKind.u64.wrap (a1)))) then ((pintlelaw01_lives.f k).bind fun t123 => (some t123)) else (some false)) else (some false))) = some r := H
  have A8 := Aside0.mk A80
  clear A80
  replace H := Option.bind_eq_some_iff.mp H
  obtain ⟨t122, A90, H⟩ := H
  replace H : (if (wrap64 ((wrap64 (t117 * 4294967296)) + (wrap64 (t118)))) = (wrap64 (t121 * t122)) then (if (IntKind.u64.wrap ((IntKind.u64.wrap ((IntKind.u64.wrap (t119)) * 4294967296)) + (IntKind.u64.wrap (t120)))) = (IntKind.u64.wrap ((IntKind.u64.wrap (a0)) * (IntKind.u64.wrap (a1)))) then ((pintlelaw01_lives.f k).bind fun t123 => (some t123)) else (some false)) else (some false)) = some r := H
  have A9 := Aside0.mk A90
  clear A90
  by_cases c10 : (wrap64 ((wrap64 (t117 * 4294967296)) + (wrap64 (t118)))) = (wrap64 (t121 * t122))
  · rw [if_pos c10] at H
    have c10b0 : ((wrap64 ((wrap64 (t117 * 4294967296)) + (wrap64 (t118)))) == (wrap64 (t121 * t122))) = true := beq_iff_eq.mpr c10
    have c10b1 : ((wrap64 ((wrap64 (t117 * 4294967296)) + (wrap64 (t118)))) != (wrap64 (t121 * t122))) = false := bne_eq_false_iff_eq.mpr c10
    clear c10
    by_cases c11 : (IntKind.u64.wrap ((IntKind.u64.wrap ((IntKind.u64.wrap (t119)) * 4294967296)) + (IntKind.u64.wrap (t120)))) = (IntKind.u64.wrap ((IntKind.u64.wrap (a0)) * (IntKind.u64.wrap (a1))))
    · rw [if_pos c11] at H
      have c11b0 : ((IntKind.u64.wrap ((IntKind.u64.wrap ((IntKind.u64.wrap (t119)) * 4294967296)) + (IntKind.u64.wrap (t120)))) == (IntKind.u64.wrap ((IntKind.u64.wrap (a0)) * (IntKind.u64.wrap (a1))))) = true := beq_iff_eq.mpr c11
      have c11b1 : ((IntKind.u64.wrap ((IntKind.u64.wrap ((IntKind.u64.wrap (t119)) * 4294967296)) + (IntKind.u64.wrap (t120)))) != (IntKind.u64.wrap ((IntKind.u64.wrap (a0)) * (IntKind.u64.wrap (a1))))) = false := bne_eq_false_iff_eq.mpr c11
      clear c11
      replace H := Option.bind_eq_some_iff.mp H
      obtain ⟨t123, A120, H⟩ := H
      replace H : (some t123) = some r := H
      have A12 := Aside0.mk A120
      clear A120
      obtain rfl := Option.some.inj H
      go_enter Try.func8, Try.ntmps8
      go_wp2_with (first | ((with_reducible refine gate_callee (f := 13) rfl ?_); refine goesL_ (some 9) rfl rfl Try.func13 (by kernel_rfl) rfl #[.int .i64 12, .int .u32 a0, .int .u32 a1] rfl (by (try simp only [List.map_toArray, List.map_cons, List.map_nil]); first | done | rfl | (simp only [List.length_drop, List.length_take]; rfl)) ?_; (with_reducible refine (pintlelaw01_told.calls k 12 a0 a1 t116 _ A3.out).mono ?_); rintro e w' ⟨rfl, ⟨nd, rfl⟩⟩; refine ⟨_, rfl, ?_⟩) | ((with_reducible refine gate_callee (f := 14) rfl ?_); refine goesL_ (some 10) rfl rfl Try.func14 (by kernel_rfl) rfl #[.int .u32 t116] rfl (by (try simp only [List.map_toArray, List.map_cons, List.map_nil]); first | done | rfl | (simp only [List.length_drop, List.length_take]; rfl)) ?_; (with_reducible refine (pintleref01_Signed.calls t116 t117 _ A4.out).mono ?_); rintro e w' ⟨rfl, ⟨nd, rfl⟩⟩; refine ⟨_, rfl, ?_⟩) | ((with_reducible refine gate_callee (f := 13) rfl ?_); refine goesL_ (some 14) rfl rfl Try.func13 (by kernel_rfl) rfl #[.int .i64 11, .int .u32 a0, .int .u32 a1] rfl (by (try simp only [List.map_toArray, List.map_cons, List.map_nil]); first | done | rfl | (simp only [List.length_drop, List.length_take]; rfl)) ?_; (with_reducible refine (pintlelaw01_told.calls k 11 a0 a1 t118 _ A5.out).mono ?_); rintro e w' ⟨rfl, ⟨nd, rfl⟩⟩; refine ⟨_, rfl, ?_⟩) | ((with_reducible refine gate_callee (f := 13) rfl ?_); refine goesL_ (some 19) rfl rfl Try.func13 (by kernel_rfl) rfl #[.int .i64 14, .int .u32 a0, .int .u32 a1] rfl (by (try simp only [List.map_toArray, List.map_cons, List.map_nil]); first | done | rfl | (simp only [List.length_drop, List.length_take]; rfl)) ?_; (with_reducible refine (pintlelaw01_told.calls k 14 a0 a1 t119 _ A6.out).mono ?_); rintro e w' ⟨rfl, ⟨nd, rfl⟩⟩; refine ⟨_, rfl, ?_⟩) | ((with_reducible refine gate_callee (f := 13) rfl ?_); refine goesL_ (some 24) rfl rfl Try.func13 (by kernel_rfl) rfl #[.int .i64 11, .int .u32 a0, .int .u32 a1] rfl (by (try simp only [List.map_toArray, List.map_cons, List.map_nil]); first | done | rfl | (simp only [List.length_drop, List.length_take]; rfl)) ?_; (with_reducible refine (pintlelaw01_told.calls k 11 a0 a1 t120 _ A7.out).mono ?_); rintro e w' ⟨rfl, ⟨nd, rfl⟩⟩; refine ⟨_, rfl, ?_⟩) | ((with_reducible refine gate_callee (f := 14) rfl ?_); refine goesL_ (some 29) rfl rfl Try.func14 (by kernel_rfl) rfl #[.int .u32 a0] rfl (by (try simp only [List.map_toArray, List.map_cons, List.map_nil]); first | done | rfl | (simp only [List.length_drop, List.length_take]; rfl)) ?_; (with_reducible refine (pintleref01_Signed.calls a0 t121 _ A8.out).mono ?_); rintro e w' ⟨rfl, ⟨nd, rfl⟩⟩; refine ⟨_, rfl, ?_⟩) | ((with_reducible refine gate_callee (f := 14) rfl ?_); refine goesL_ (some 31) rfl rfl Try.func14 (by kernel_rfl) rfl #[.int .u32 a1] rfl (by (try simp only [List.map_toArray, List.map_cons, List.map_nil]); first | done | rfl | (simp only [List.length_drop, List.length_take]; rfl)) ?_; (with_reducible refine (pintleref01_Signed.calls a1 t122 _ A9.out).mono ?_); rintro e w' ⟨rfl, ⟨nd, rfl⟩⟩; refine ⟨_, rfl, ?_⟩) | (go_at_call 11; (with_reducible refine (pintlelaw01_lives.calls k  t123 _ A12.out).mono ?_); rintro e w' ⟨rfl, ⟨nd, rfl⟩⟩))
      go_ret
      exact ⟨by first | rfl | (simp; done) | (simp [*]; done), by repeat (first | exact Drawn0.refl _ | apply Drawn0.step)⟩
    · rw [if_neg c11] at H
      have c11b0 : ((IntKind.u64.wrap ((IntKind.u64.wrap ((IntKind.u64.wrap (t119)) * 4294967296)) + (IntKind.u64.wrap (t120)))) == (IntKind.u64.wrap ((IntKind.u64.wrap (a0)) * (IntKind.u64.wrap (a1))))) = false := beq_eq_false_iff_ne.mpr c11
      have c11b1 : ((IntKind.u64.wrap ((IntKind.u64.wrap ((IntKind.u64.wrap (t119)) * 4294967296)) + (IntKind.u64.wrap (t120)))) != (IntKind.u64.wrap ((IntKind.u64.wrap (a0)) * (IntKind.u64.wrap (a1))))) = true := bne_iff_ne.mpr c11
      obtain rfl := Option.some.inj H
      go_enter Try.func8, Try.ntmps8
      go_wp2_with (first | ((with_reducible refine gate_callee (f := 13) rfl ?_); refine goesL_ (some 9) rfl rfl Try.func13 (by kernel_rfl) rfl #[.int .i64 12, .int .u32 a0, .int .u32 a1] rfl (by (try simp only [List.map_toArray, List.map_cons, List.map_nil]); first | done | rfl | (simp only [List.length_drop, List.length_take]; rfl)) ?_; (with_reducible refine (pintlelaw01_told.calls k 12 a0 a1 t116 _ A3.out).mono ?_); rintro e w' ⟨rfl, ⟨nd, rfl⟩⟩; refine ⟨_, rfl, ?_⟩) | ((with_reducible refine gate_callee (f := 14) rfl ?_); refine goesL_ (some 10) rfl rfl Try.func14 (by kernel_rfl) rfl #[.int .u32 t116] rfl (by (try simp only [List.map_toArray, List.map_cons, List.map_nil]); first | done | rfl | (simp only [List.length_drop, List.length_take]; rfl)) ?_; (with_reducible refine (pintleref01_Signed.calls t116 t117 _ A4.out).mono ?_); rintro e w' ⟨rfl, ⟨nd, rfl⟩⟩; refine ⟨_, rfl, ?_⟩) | ((with_reducible refine gate_callee (f := 13) rfl ?_); refine goesL_ (some 14) rfl rfl Try.func13 (by kernel_rfl) rfl #[.int .i64 11, .int .u32 a0, .int .u32 a1] rfl (by (try simp only [List.map_toArray, List.map_cons, List.map_nil]); first | done | rfl | (simp only [List.length_drop, List.length_take]; rfl)) ?_; (with_reducible refine (pintlelaw01_told.calls k 11 a0 a1 t118 _ A5.out).mono ?_); rintro e w' ⟨rfl, ⟨nd, rfl⟩⟩; refine ⟨_, rfl, ?_⟩) | ((with_reducible refine gate_callee (f := 13) rfl ?_); refine goesL_ (some 19) rfl rfl Try.func13 (by kernel_rfl) rfl #[.int .i64 14, .int .u32 a0, .int .u32 a1] rfl (by (try simp only [List.map_toArray, List.map_cons, List.map_nil]); first | done | rfl | (simp only [List.length_drop, List.length_take]; rfl)) ?_; (with_reducible refine (pintlelaw01_told.calls k 14 a0 a1 t119 _ A6.out).mono ?_); rintro e w' ⟨rfl, ⟨nd, rfl⟩⟩; refine ⟨_, rfl, ?_⟩) | ((with_reducible refine gate_callee (f := 13) rfl ?_); refine goesL_ (some 24) rfl rfl Try.func13 (by kernel_rfl) rfl #[.int .i64 11, .int .u32 a0, .int .u32 a1] rfl (by (try simp only [List.map_toArray, List.map_cons, List.map_nil]); first | done | rfl | (simp only [List.length_drop, List.length_take]; rfl)) ?_; (with_reducible refine (pintlelaw01_told.calls k 11 a0 a1 t120 _ A7.out).mono ?_); rintro e w' ⟨rfl, ⟨nd, rfl⟩⟩; refine ⟨_, rfl, ?_⟩) | ((with_reducible refine gate_callee (f := 14) rfl ?_); refine goesL_ (some 29) rfl rfl Try.func14 (by kernel_rfl) rfl #[.int .u32 a0] rfl (by (try simp only [List.map_toArray, List.map_cons, List.map_nil]); first | done | rfl | (simp only [List.length_drop, List.length_take]; rfl)) ?_; (with_reducible refine (pintleref01_Signed.calls a0 t121 _ A8.out).mono ?_); rintro e w' ⟨rfl, ⟨nd, rfl⟩⟩; refine ⟨_, rfl, ?_⟩) | ((with_reducible refine gate_callee (f := 14) rfl ?_); refine goesL_ (some 31) rfl rfl Try.func14 (by kernel_rfl) rfl #[.int .u32 a1] rfl (by (try simp only [List.map_toArray, List.map_cons, List.map_nil]); first | done | rfl | (simp only [List.length_drop, List.length_take]; rfl)) ?_; (with_reducible refine (pintleref01_Signed.calls a1 t122 _ A9.out).mono ?_); rintro e w' ⟨rfl, ⟨nd, rfl⟩⟩; refine ⟨_, rfl, ?_⟩))
      go_ret
      exact ⟨by first | rfl | (simp; done) | (simp [*]; done), by repeat (first | exact Drawn0.refl _ | apply Drawn0.step)⟩
  · rw [if_neg c10] at H
    have c10b0 : ((wrap64 ((wrap64 (t117 * 4294967296)) + (wrap64 (t118)))) == (wrap64 (t121 * t122))) = false := beq_eq_false_iff_ne.mpr c10
    have c10b1 : ((wrap64 ((wrap64 (t117 * 4294967296)) + (wrap64 (t118)))) != (wrap64 (t121 * t122))) = true := bne_iff_ne.mpr c10
    obtain rfl := Option.some.inj H
    go_enter Try.func8, Try.ntmps8
    go_wp2_with (first | ((with_reducible refine gate_callee (f := 13) rfl ?_); refine goesL_ (some 9) rfl rfl Try.func13 (by kernel_rfl) rfl #[.int .i64 12, .int .u32 a0, .int .u32 a1] rfl (by (try simp only [List.map_toArray, List.map_cons, List.map_nil]); first | done | rfl | (simp only [List.length_drop, List.length_take]; rfl)) ?_; (with_reducible refine (pintlelaw01_told.calls k 12 a0 a1 t116 _ A3.out).mono ?_); rintro e w' ⟨rfl, ⟨nd, rfl⟩⟩; refine ⟨_, rfl, ?_⟩) | ((with_reducible refine gate_callee (f := 14) rfl ?_); refine goesL_ (some 10) rfl rfl Try.func14 (by kernel_rfl) rfl #[.int .u32 t116] rfl (by (try simp only [List.map_toArray, List.map_cons, List.map_nil]); first | done | rfl | (simp only [List.length_drop, List.length_take]; rfl)) ?_; (with_reducible refine (pintleref01_Signed.calls t116 t117 _ A4.out).mono ?_); rintro e w' ⟨rfl, ⟨nd, rfl⟩⟩; refine ⟨_, rfl, ?_⟩) | ((with_reducible refine gate_callee (f := 13) rfl ?_); refine goesL_ (some 14) rfl rfl Try.func13 (by kernel_rfl) rfl #[.int .i64 11, .int .u32 a0, .int .u32 a1] rfl (by (try simp only [List.map_toArray, List.map_cons, List.map_nil]); first | done | rfl | (simp only [List.length_drop, List.length_take]; rfl)) ?_; (with_reducible refine (pintlelaw01_told.calls k 11 a0 a1 t118 _ A5.out).mono ?_); rintro e w' ⟨rfl, ⟨nd, rfl⟩⟩; refine ⟨_, rfl, ?_⟩) | ((with_reducible refine gate_callee (f := 13) rfl ?_); refine goesL_ (some 19) rfl rfl Try.func13 (by kernel_rfl) rfl #[.int .i64 14, .int .u32 a0, .int .u32 a1] rfl (by (try simp only [List.map_toArray, List.map_cons, List.map_nil]); first | done | rfl | (simp only [List.length_drop, List.length_take]; rfl)) ?_; (with_reducible refine (pintlelaw01_told.calls k 14 a0 a1 t119 _ A6.out).mono ?_); rintro e w' ⟨rfl, ⟨nd, rfl⟩⟩; refine ⟨_, rfl, ?_⟩) | ((with_reducible refine gate_callee (f := 13) rfl ?_); refine goesL_ (some 24) rfl rfl Try.func13 (by kernel_rfl) rfl #[.int .i64 11, .int .u32 a0, .int .u32 a1] rfl (by (try simp only [List.map_toArray, List.map_cons, List.map_nil]); first | done | rfl | (simp only [List.length_drop, List.length_take]; rfl)) ?_; (with_reducible refine (pintlelaw01_told.calls k 11 a0 a1 t120 _ A7.out).mono ?_); rintro e w' ⟨rfl, ⟨nd, rfl⟩⟩; refine ⟨_, rfl, ?_⟩) | ((with_reducible refine gate_callee (f := 14) rfl ?_); refine goesL_ (some 29) rfl rfl Try.func14 (by kernel_rfl) rfl #[.int .u32 a0] rfl (by (try simp only [List.map_toArray, List.map_cons, List.map_nil]); first | done | rfl | (simp only [List.length_drop, List.length_take]; rfl)) ?_; (with_reducible refine (pintleref01_Signed.calls a0 t121 _ A8.out).mono ?_); rintro e w' ⟨rfl, ⟨nd, rfl⟩⟩; refine ⟨_, rfl, ?_⟩) | ((with_reducible refine gate_callee (f := 14) rfl ?_); refine goesL_ (some 31) rfl rfl Try.func14 (by kernel_rfl) rfl #[.int .u32 a1] rfl (by (try simp only [List.map_toArray, List.map_cons, List.map_nil]); first | done | rfl | (simp only [List.length_drop, List.length_take]; rfl)) ?_; (with_reducible refine (pintleref01_Signed.calls a1 t122 _ A9.out).mono ?_); rintro e w' ⟨rfl, ⟨nd, rfl⟩⟩; refine ⟨_, rfl, ?_⟩))
    go_ret
    exact ⟨by first | rfl | (simp; done) | (simp [*]; done), by repeat (first | exact Drawn0.refl _ | apply Drawn0.step)⟩

/-- THE ONE PURE STATEMENT of pintlelaw01_NumHalves: yours. -/
def pintlelaw01_NumHalves.Pure : Prop := ∀ (a0 : Int) (a1 : Int), (Lit.int .u32 a0).wf = true → (Lit.int .u32 a1).wf = true → ∃ k, pintlelaw01_NumHalves.f k a0 a1 = some true
theorem pintlelaw01_NumHalves.walk (P : pintlelaw01_NumHalves.Pure) (a0 : Int) (a1 : Int) (w : World) (w0 : (Lit.int .u32 a0).wf = true) (w1 : (Lit.int .u32 a1).wf = true) :
    Calls Try.prog 8 #[.int .u32 a0, .int .u32 a1] w fun e w' => e = .returned (.bool true) ∧ Below w.heap.size w w' := by
  obtain ⟨k, h⟩ := P a0 a1 w0 w1
  refine (pintlelaw01_NumHalves.calls k a0 a1 true w h).mono ?_
  rintro e w' ⟨rfl, hd⟩
  exact ⟨rfl, hd.below⟩

end Go.Proofs.Ytijacghgfalipaa.PNumHalves
