/- pseudo_set: a plain function with the same answers as the program's, and the proof of it, as a program has written them. -/
import Derived.Test.YtihecimbhhlhaaaRsBase
import Derived.Test.YtihecimbhhlhaaaRsShapes
import Derived.Test.YtihecimbhhlhaaaRsPseudoReg
import Derived.Test.YtihecimbhhlhaaaRsPseudoShort
namespace Go.Proofs.Ytihecimbhhlhaaa.PRs
open Go.RowKit Go.Proofs.YtihecimbhhlhaaaW.PrintWords Go.Proofs.YtihecimbhhlhaaaW.PrintLast Go.Proofs.YtihecimbhhlhaaaW.PrintMore
attribute [local go_sem] max2_int min2_int max_two min_two max_three min_three max_four min_four   -- for this text's walks alone
set_option linter.unusedVariables false
set_option linter.unusedSimpArgs false

attribute [local go_sem high] eqA32
/-! ### pseudo_set: function 46 -/
def pseudo_set.j0 : Nat → Int → Int → Bool → Option ((List (S32)))
  | 0, _, _, _ => none
  | k + 1, x0, x1, x14 => if x14 = true then (some ([] : List (S32))) else ((pseudo_short.f x1).bind fun t189 => (if t189 = true then (some (([(⟨19, x0, 0, 0, x1⟩ : S32)] : List (S32)))) else ((some (([(⟨42, x0, 0, 0, Go.bits .and .i32 (wrap32 (x1 + 2048)) (-4096)⟩ : S32)] : List (S32)) : List (S32))).bind fun y193 => (if (wrap32 (x1 - (Go.bits .and .i32 (wrap32 (x1 + 2048)) (-4096)))) = 0 then (some y193) else (if y193.length < 3518437208883 then (some (y193 ++ [(⟨19, x0, x0, 0, wrap32 (x1 - (Go.bits .and .i32 (wrap32 (x1 + 2048)) (-4096)))⟩ : S32)])) else (none))))))
def pseudo_set.f (k : Nat) (a0 : Int) (a1 : Int) : Option ((List (S32))) := (pseudo_reg.f a0).bind fun t188 => (if t188 = true then (pseudo_set.j0 k a0 a1 (a0 == 0)) else (pseudo_set.j0 k a0 a1 true))
theorem pseudo_set.mono_l : ∀ k, (∀ y0 y1 y2, LeO (pseudo_set.j0 k y0 y1 y2) (pseudo_set.j0 (k + 1) y0 y1 y2))
  | 0 => fun _ _ _ r h => by simp [pseudo_set.j0] at h
  | k + 1 => by
    have ih0 := pseudo_set.mono_l k
    · intro y0 y1 y2
      unfold pseudo_set.j0
      repeat' first
      | (with_reducible exact ih0 _ _ _)
      | (with_reducible exact LeO.refl _)
      | (with_reducible exact LeO.none _)
      | (with_reducible refine LeO.ite ?_ ?_)
      | (with_reducible refine LeO.bind ?_ (fun _ => ?_))
      | exact ih0 _ _ _
      | exact LeO.none _
      | refine LeO.ite ?_ ?_
      | refine LeO.bind ?_ (fun _ => ?_)
theorem pseudo_set.mono : ∀ a0 a1 k, LeO (pseudo_set.f k a0 a1) (pseudo_set.f (k + 1) a0 a1) := by
  intro a0 a1 k
  have ih0 := pseudo_set.mono_l k
  unfold pseudo_set.f
  repeat' first
      | (with_reducible exact ih0 _ _ _)
      | (with_reducible exact LeO.refl _)
      | (with_reducible exact LeO.none _)
      | (with_reducible refine LeO.ite ?_ ?_)
      | (with_reducible refine LeO.bind ?_ (fun _ => ?_))
      | exact ih0 _ _ _
      | exact LeO.none _
      | refine LeO.ite ?_ ?_
      | refine LeO.bind ?_ (fun _ => ?_)
set_option maxHeartbeats 8000000 in
set_option maxRecDepth 100000 in
theorem pseudo_set.calls (k : Nat) (a0 : Int) (a1 : Int) (r : List (S32)) (w : World) (h : pseudo_set.f k a0 a1 = some r) :
    Calls Try.prog 46 #[.int .i64 a0, .int .i32 a1] w fun e w' => ∃ v0_ : Value, e = .returned (v0_) ∧ Kd.R k32 32 w' w.heap.size (fun _ => True) v0_ r ∧ Below w.heap.size w w' := by
  have hu32 := Try.underlying32
  have HB := Aside0.mk (Below.refl w.heap.size w)
  have H : ((pseudo_reg.f a0).bind fun t188 => (if t188 = true then (pseudo_set.j0 k a0 a1 (a0 == 0)) else (pseudo_set.j0 k a0 a1 true))) = some r := h
  clear h
  have HC3 := Aside0.mk H
  clear H
  go_enter Try.func46, Try.ntmps46
  go_upto_region 1 with (fail)
  go_cut [14] (fun v14 wc => ∃ (kq : Nat) (x14_2 : Bool), v14 = .bool x14_2 ∧ Aside0 (pseudo_set.j0 kq a0 a1 x14_2 = some r) ∧ Aside0 (kq ≤ k) ∧ Aside0 (Below w.heap.size w wc))
  case first =>
    have H := HC3.out
    clear HC3
    replace H := Option.bind_eq_some_iff.mp H
    obtain ⟨t188, A40, H⟩ := H
    replace H : (if t188 = true then (pseudo_set.j0 k a0 a1 (a0 == 0)) else (pseudo_set.j0 k a0 a1 true)) = some r := H
    have A4 := Aside0.mk A40
    clear A40
    by_cases c5 : t188 = true
    · subst c5
      have H1 : (pseudo_set.j0 k a0 a1 (a0 == 0)) = some r := by rw [if_pos rfl] at H; exact H
      clear H
      have H := H1
      clear H1
      have H' := Aside0.mk H
      clear H
      go_wp2_with (first | ((with_reducible refine gate_callee (f := 50) rfl ?_); refine goesL_ (some 9) rfl rfl Try.func50 (by kernel_rfl) rfl #[.int .i64 a0] rfl (by (try simp only [List.map_toArray, List.map_cons, List.map_nil]); first | done | rfl | (simp only [List.length_drop, List.length_take]; rfl)) ?_; (with_reducible refine (pseudo_reg.calls a0 true _ A4.out).mono ?_); rintro e w' ⟨rfl, ⟨nd, rfl⟩⟩; refine ⟨_, rfl, ?_⟩))
      go_meet
      case rel => exact ⟨_, ((a0 == 0)), (by first | rfl | (simp; done) | (simp [*]; done)), H', ⟨by first | omega | exact Nat.le_refl _⟩, ⟨by repeat (first | (with_reducible first | exact HB.out | apply below_alloc | apply pw_below_drewN | apply below_drew1) | exact HB.out)⟩⟩
    · replace c5 := Bool.eq_false_iff.mpr c5
      subst c5
      have H1 : (pseudo_set.j0 k a0 a1 true) = some r := by rw [if_neg (show ¬ (false = true) by decide)] at H; exact H
      clear H
      have H := H1
      clear H1
      have H' := Aside0.mk H
      clear H
      go_wp2_with (first | ((with_reducible refine gate_callee (f := 50) rfl ?_); refine goesL_ (some 9) rfl rfl Try.func50 (by kernel_rfl) rfl #[.int .i64 a0] rfl (by (try simp only [List.map_toArray, List.map_cons, List.map_nil]); first | done | rfl | (simp only [List.length_drop, List.length_take]; rfl)) ?_; (with_reducible refine (pseudo_reg.calls a0 false _ A4.out).mono ?_); rintro e w' ⟨rfl, ⟨nd, rfl⟩⟩; refine ⟨_, rfl, ?_⟩))
      go_meet
      case rel => exact ⟨_, (true), (by first | rfl | (simp; done) | (simp [*]; done)), H', ⟨by first | omega | exact Nat.le_refl _⟩, ⟨by repeat (first | (with_reducible first | exact HB.out | apply below_alloc | apply pw_below_drewN | apply below_drew1) | exact HB.out)⟩⟩
  case rest =>
    clear HC3
    try clear p2
    try clear c4
    try clear c5
    obtain ⟨kq, x14_2, rfl, HA, HJ2, HB⟩ := hcut
    cases kq with
    | zero => exact absurd HA.out (by simp [pseudo_set.j0])
    | succ kj2 =>
      have H := HA.out
      clear HA
      simp only [pseudo_set.j0] at H
      by_cases c6 : x14_2 = true
      · subst c6
        have H1 : (some ([] : List (S32))) = some r := by rw [if_pos rfl] at H; exact H
        clear H
        have H := H1
        clear H1
        obtain rfl := Option.some.inj H
        go_wp2
        go_ret
        exact ⟨_, by first | rfl | (simp [errW_none, errW_some] <;> rfl) | (simp [*, errW_none, errW_some] <;> rfl), by first | exact Kd.R_nil _ _ _ _ _ | exact Kd.N_nil _ _ _ _ _ | exact Kd.V_nil _ _ _ _ _ | exact Kd.Q_nil _ _ _ _ _ | exact Kd.S_nil _ _ _ _ _, by repeat (first | (with_reducible first | exact HB.out | apply below_alloc | apply pw_below_drewN | apply below_drew1) | exact HB.out)⟩
      · replace c6 := Bool.eq_false_iff.mpr c6
        subst c6
        have H1 : ((pseudo_short.f a1).bind fun t189 => (if t189 = true then (some (([(⟨19, a0, 0, 0, a1⟩ : S32)] : List (S32)))) else ((some (([(⟨42, a0, 0, 0, Go.bits .and .i32 (wrap32 (a1 + 2048)) (-4096)⟩ : S32)] : List (S32)) : List (S32))).bind fun y193 => (if (wrap32 (a1 - (Go.bits .and .i32 (wrap32 (a1 + 2048)) (-4096)))) = 0 then (some y193) else (if y193.length < 3518437208883 then (some (y193 ++ [(⟨19, a0, a0, 0, wrap32 (a1 - (Go.bits .and .i32 (wrap32 (a1 + 2048)) (-4096)))⟩ : S32)])) else (none)))))) = some r := by rw [if_neg (show ¬ (false = true) by decide)] at H; exact H
        clear H
        have H := H1
        clear H1
        replace H := Option.bind_eq_some_iff.mp H
        obtain ⟨t189, A70, H⟩ := H
        replace H : (if t189 = true then (some (([(⟨19, a0, 0, 0, a1⟩ : S32)] : List (S32)))) else ((some (([(⟨42, a0, 0, 0, Go.bits .and .i32 (wrap32 (a1 + 2048)) (-4096)⟩ : S32)] : List (S32)) : List (S32))).bind fun y193 => (if (wrap32 (a1 - (Go.bits .and .i32 (wrap32 (a1 + 2048)) (-4096)))) = 0 then (some y193) else (if y193.length < 3518437208883 then (some (y193 ++ [(⟨19, a0, a0, 0, wrap32 (a1 - (Go.bits .and .i32 (wrap32 (a1 + 2048)) (-4096)))⟩ : S32)])) else (none))))) = some r := H
        have A7 := Aside0.mk A70
        clear A70
        by_cases c8 : t189 = true
        · subst c8
          have H1 : (some (([(⟨19, a0, 0, 0, a1⟩ : S32)] : List (S32)))) = some r := by rw [if_pos rfl] at H; exact H
          clear H
          have H := H1
          clear H1
          obtain ⟨y190, hy190⟩ : ∃ y_ : List (S32), y_ = (([(⟨19, a0, 0, 0, a1⟩ : S32)] : List (S32))) := ⟨_, rfl⟩
          replace H : (some y190) = some r := by first | (rw [hy190]; with_reducible exact H) | (have H2_ := (Option.bind_some _ _).symm.trans H; rw [hy190]; with_reducible exact H2_) | (have H2_ := (Option.bind_some _ _).symm.trans H; with_reducible exact H2_) | with_reducible exact H | (rw [hy190]; exact H) | exact H
          have Ny190 := Aside0.mk hy190
          clear hy190
          obtain rfl := Option.some.inj H
          go_wp2_with (first | ((with_reducible refine gate_callee (f := 51) rfl ?_); refine goesL_ (some 16) rfl rfl Try.func51 (by kernel_rfl) rfl #[.int .i32 a1] rfl (by (try simp only [List.map_toArray, List.map_cons, List.map_nil]); first | done | rfl | (simp only [List.length_drop, List.length_take]; rfl)) ?_; (with_reducible refine (pseudo_short.calls a1 true _ A7.out).mono ?_); rintro e w' ⟨rfl, ⟨nd, rfl⟩⟩; refine ⟨_, rfl, ?_⟩) | ((with_reducible refine gate_dst (N := 20) rfl ?_); refine Kd.R_lit k32 _ 32 ?hg (N := 20) ?hd (xs := ([(⟨19, a0, 0, 0, a1⟩ : S32)] : List (S32))) (inner := [.int .i64 19, .int .i64 a0, .int .i64 0, .int .i64 0, .int .i32 a1]) (ok := fun _ => True) (okp := fun _ => True) ?hr ?hp (fun _ hk => hk) trivial (Below.refl _ _) (Nat.le_refl _) (by simp) ?_; (case hd => rfl); (case hg => rfl); (case hr => first | (go_simp; done) | (go_simp; rfl)); (case hp => exact (Reps.c5 (show Kd.M k32 _ _ _ (⟨19, a0, 0, 0, a1⟩ : S32) [.int .i64 19, .int .i64 a0, .int .i64 0, .int .i64 0, .int .i32 a1] from (k32_mkM _ _ _ (⟨19, a0, 0, 0, a1⟩ : S32) )) (Reps.none _ _))); intro v191 w9 ho10 hb hg_ hnew_; clear hg_ hnew_; (first | rw [← Ny190.out] at ho10 | (simp only [Int.reduceToNat] at ho10; rw [← Ny190.out] at ho10)); have n0_ := Aside0.mk (Kd.R_lower ho10 (below_size (by repeat (first | (with_reducible first | exact HB.out | apply below_alloc | apply pw_below_drewN | apply below_drew1) | exact HB.out)))); have n1_ := Aside0.mk (below_step (by repeat (first | (with_reducible first | exact HB.out | apply below_alloc | apply pw_below_drewN | apply below_drew1) | exact HB.out)) hb); clear HB; have HO192 := n0_; have HB := n1_; clear n0_ n1_; clear hb ho10))
          go_ret
          exact ⟨_, by first | rfl | (simp [errW_none, errW_some] <;> rfl) | (simp [*, errW_none, errW_some] <;> rfl), by (with_reducible repeat (first | apply Kd.R_alloc | apply Kd.R_drewN | apply Kd.R_drew)); exact HO192.out, by repeat (first | (with_reducible first | exact HB.out | apply below_alloc | apply pw_below_drewN | apply below_drew1) | exact HB.out)⟩
        · replace c8 := Bool.eq_false_iff.mpr c8
          subst c8
          have H1 : ((some (([(⟨42, a0, 0, 0, Go.bits .and .i32 (wrap32 (a1 + 2048)) (-4096)⟩ : S32)] : List (S32)) : List (S32))).bind fun y193 => (if (wrap32 (a1 - (Go.bits .and .i32 (wrap32 (a1 + 2048)) (-4096)))) = 0 then (some y193) else (if y193.length < 3518437208883 then (some (y193 ++ [(⟨19, a0, a0, 0, wrap32 (a1 - (Go.bits .and .i32 (wrap32 (a1 + 2048)) (-4096)))⟩ : S32)])) else (none)))) = some r := by rw [if_neg (show ¬ (false = true) by decide)] at H; exact H
          clear H
          have H := H1
          clear H1
          obtain ⟨y193, hy193⟩ : ∃ y_ : List (S32), y_ = (([(⟨42, a0, 0, 0, Go.bits .and .i32 (wrap32 (a1 + 2048)) (-4096)⟩ : S32)] : List (S32))) := ⟨_, rfl⟩
          replace H : (if (wrap32 (a1 - (Go.bits .and .i32 (wrap32 (a1 + 2048)) (-4096)))) = 0 then (some y193) else (if y193.length < 3518437208883 then (some (y193 ++ [(⟨19, a0, a0, 0, wrap32 (a1 - (Go.bits .and .i32 (wrap32 (a1 + 2048)) (-4096)))⟩ : S32)])) else (none))) = some r := by first | (rw [hy193]; with_reducible exact H) | (have H2_ := (Option.bind_some _ _).symm.trans H; rw [hy193]; with_reducible exact H2_) | (have H2_ := (Option.bind_some _ _).symm.trans H; with_reducible exact H2_) | with_reducible exact H | (rw [hy193]; exact H) | exact H
          have Ny193 := Aside0.mk hy193
          clear hy193
          by_cases c11 : (wrap32 (a1 - (Go.bits .and .i32 (wrap32 (a1 + 2048)) (-4096)))) = 0
          · rw [if_pos c11] at H
            have c11b0 : ((wrap32 (a1 - (Go.bits .and .i32 (wrap32 (a1 + 2048)) (-4096)))) == 0) = true := beq_iff_eq.mpr c11
            have c11b1 : ((wrap32 (a1 - (Go.bits .and .i32 (wrap32 (a1 + 2048)) (-4096)))) != 0) = false := bne_eq_false_iff_eq.mpr c11
            clear c11
            obtain rfl := Option.some.inj H
            go_wp2_with (first | ((with_reducible refine gate_callee (f := 51) rfl ?_); refine goesL_ (some 16) rfl rfl Try.func51 (by kernel_rfl) rfl #[.int .i32 a1] rfl (by (try simp only [List.map_toArray, List.map_cons, List.map_nil]); first | done | rfl | (simp only [List.length_drop, List.length_take]; rfl)) ?_; (with_reducible refine (pseudo_short.calls a1 false _ A7.out).mono ?_); rintro e w' ⟨rfl, ⟨nd, rfl⟩⟩; refine ⟨_, rfl, ?_⟩) | ((with_reducible refine gate_dst (N := 27) rfl ?_); refine Kd.R_lit k32 _ 32 ?hg (N := 27) ?hd (xs := ([(⟨42, a0, 0, 0, Go.bits .and .i32 (wrap32 (a1 + 2048)) (-4096)⟩ : S32)] : List (S32))) (inner := [.int .i64 42, .int .i64 a0, .int .i64 0, .int .i64 0, .int .i32 (Go.bits .and .i32 (wrap32 (a1 + 2048)) (-4096))]) (ok := fun _ => True) (okp := fun _ => True) ?hr ?hp (fun _ hk => hk) trivial (Below.refl _ _) (Nat.le_refl _) (by simp) ?_; (case hd => rfl); (case hg => rfl); (case hr => first | (go_simp; done) | (go_simp; rfl)); (case hp => exact (Reps.c5 (show Kd.M k32 _ _ _ (⟨42, a0, 0, 0, Go.bits .and .i32 (wrap32 (a1 + 2048)) (-4096)⟩ : S32) [.int .i64 42, .int .i64 a0, .int .i64 0, .int .i64 0, .int .i32 (Go.bits .and .i32 (wrap32 (a1 + 2048)) (-4096))] from (k32_mkM _ _ _ (⟨42, a0, 0, 0, Go.bits .and .i32 (wrap32 (a1 + 2048)) (-4096)⟩ : S32) )) (Reps.none _ _))); intro v194 w12 ho13 hb hg_ hnew_; clear hg_ hnew_; (first | rw [← Ny193.out] at ho13 | (simp only [Int.reduceToNat] at ho13; rw [← Ny193.out] at ho13)); have n0_ := Aside0.mk (Kd.R_lower ho13 (below_size (by repeat (first | (with_reducible first | exact HB.out | apply below_alloc | apply pw_below_drewN | apply below_drew1) | exact HB.out)))); have n1_ := Aside0.mk (below_step (by repeat (first | (with_reducible first | exact HB.out | apply below_alloc | apply pw_below_drewN | apply below_drew1) | exact HB.out)) hb); clear HB; have HO195 := n0_; have HB := n1_; clear n0_ n1_; clear hb ho13))
            go_ret
            exact ⟨_, by first | rfl | (simp [errW_none, errW_some] <;> rfl) | (simp [*, errW_none, errW_some] <;> rfl), by (with_reducible repeat (first | apply Kd.R_alloc | apply Kd.R_drewN | apply Kd.R_drew)); exact HO195.out, by repeat (first | (with_reducible first | exact HB.out | apply below_alloc | apply pw_below_drewN | apply below_drew1) | exact HB.out)⟩
          · rw [if_neg c11] at H
            have c11b0 : ((wrap32 (a1 - (Go.bits .and .i32 (wrap32 (a1 + 2048)) (-4096)))) == 0) = false := beq_eq_false_iff_ne.mpr c11
            have c11b1 : ((wrap32 (a1 - (Go.bits .and .i32 (wrap32 (a1 + 2048)) (-4096)))) != 0) = true := bne_iff_ne.mpr c11
            by_cases c14 : y193.length < 3518437208883
            · rw [if_pos c14] at H
              have LMc14 := Aside0.mk c14
              clear c14
              obtain ⟨y196, hy196⟩ : ∃ y_ : List (S32), y_ = (y193 ++ [(⟨19, a0, a0, 0, wrap32 (a1 - (Go.bits .and .i32 (wrap32 (a1 + 2048)) (-4096)))⟩ : S32)]) := ⟨_, rfl⟩
              replace H : (some y196) = some r := by first | (rw [hy196]; with_reducible exact H) | (have H2_ := (Option.bind_some _ _).symm.trans H; rw [hy196]; with_reducible exact H2_) | (have H2_ := (Option.bind_some _ _).symm.trans H; with_reducible exact H2_) | with_reducible exact H | (rw [hy196]; exact H) | exact H
              have Ny196 := Aside0.mk hy196
              clear hy196
              obtain rfl := Option.some.inj H
              go_wp2_with (first | ((with_reducible refine gate_callee (f := 51) rfl ?_); refine goesL_ (some 16) rfl rfl Try.func51 (by kernel_rfl) rfl #[.int .i32 a1] rfl (by (try simp only [List.map_toArray, List.map_cons, List.map_nil]); first | done | rfl | (simp only [List.length_drop, List.length_take]; rfl)) ?_; (with_reducible refine (pseudo_short.calls a1 false _ A7.out).mono ?_); rintro e w' ⟨rfl, ⟨nd, rfl⟩⟩; refine ⟨_, rfl, ?_⟩) | ((with_reducible refine gate_dst (N := 27) rfl ?_); refine Kd.R_lit k32 _ 32 ?hg (N := 27) ?hd (xs := ([(⟨42, a0, 0, 0, Go.bits .and .i32 (wrap32 (a1 + 2048)) (-4096)⟩ : S32)] : List (S32))) (inner := [.int .i64 42, .int .i64 a0, .int .i64 0, .int .i64 0, .int .i32 (Go.bits .and .i32 (wrap32 (a1 + 2048)) (-4096))]) (ok := fun _ => True) (okp := fun _ => True) ?hr ?hp (fun _ hk => hk) trivial (Below.refl _ _) (Nat.le_refl _) (by simp) ?_; (case hd => rfl); (case hg => rfl); (case hr => first | (go_simp; done) | (go_simp; rfl)); (case hp => exact (Reps.c5 (show Kd.M k32 _ _ _ (⟨42, a0, 0, 0, Go.bits .and .i32 (wrap32 (a1 + 2048)) (-4096)⟩ : S32) [.int .i64 42, .int .i64 a0, .int .i64 0, .int .i64 0, .int .i32 (Go.bits .and .i32 (wrap32 (a1 + 2048)) (-4096))] from (k32_mkM _ _ _ (⟨42, a0, 0, 0, Go.bits .and .i32 (wrap32 (a1 + 2048)) (-4096)⟩ : S32) )) (Reps.none _ _))); intro v194 w15 ho16 hb hg_ hnew_; clear hg_ hnew_; (first | rw [← Ny193.out] at ho16 | (simp only [Int.reduceToNat] at ho16; rw [← Ny193.out] at ho16)); have n0_ := Aside0.mk (Kd.R_lower ho16 (below_size (by repeat (first | (with_reducible first | exact HB.out | apply below_alloc | apply pw_below_drewN | apply below_drew1) | exact HB.out)))); have n1_ := Aside0.mk (below_step (by repeat (first | (with_reducible first | exact HB.out | apply below_alloc | apply pw_below_drewN | apply below_drew1) | exact HB.out)) hb); clear HB; have HO195 := n0_; have HB := n1_; clear n0_ n1_; clear hb ho16) | ((with_reducible refine gate_builtin (b := .append) (xs := #[.tmp 33, .tmp 38]) rfl ?_); at_builtin; refine Kd.R_append k32 (w0 := w) w.heap.size rfl (.tmp 33) (.tmp 38) 56 32 (.agg #[(.int .i64 0), (.int .i64 0), (.int .i64 0), (.int .i64 0), (.int .i32 0)]) 40 rfl Try.underlying56 info32 rfl (by decide) (by omega) v194 y193 (⟨19, a0, a0, 0, wrap32 (a1 - (Go.bits .and .i32 (wrap32 (a1 + 2048)) (-4096)))⟩ : S32) [.int .i64 19, .int .i64 a0, .int .i64 a0, .int .i64 0, .int .i32 (wrap32 (a1 - (Go.bits .and .i32 (wrap32 (a1 + 2048)) (-4096))))] (fun _ => True) (fun _ => False) rfl rfl ?aP (fun _ hk => hk.elim) ?aF ?aO ?aB ?aS ?aL ?_; (case aP => exact k32_mkM _ _ _ (⟨19, a0, a0, 0, wrap32 (a1 - (Go.bits .and .i32 (wrap32 (a1 + 2048)) (-4096)))⟩ : S32)); (case aB => exact (by repeat (first | (with_reducible first | exact HB.out | apply below_alloc | apply pw_below_drewN | apply below_drew1) | exact HB.out))); (case aF => exact (fun _ _ => trivial)); (case aO => exact (by (with_reducible repeat (first | apply Kd.R_alloc | apply Kd.R_drewN | apply Kd.R_drew)); exact HO195.out)); (case aS => exact (below_size (by repeat (first | (with_reducible first | exact HB.out | apply below_alloc | apply pw_below_drewN | apply below_drew1) | exact HB.out)))); (case aL => have := LMc14.out; omega); intro v197 w17 ho hb hg hat; rw [← Ny196.out] at ho; have n0_ := Aside0.mk (hb); have n1_ := Aside0.mk (ho); clear HB; clear HO195; have HB := n0_; have HO198 := n1_; clear n0_ n1_; clear ho hb hg hat))
              go_ret
              exact ⟨_, by first | rfl | (simp [errW_none, errW_some] <;> rfl) | (simp [*, errW_none, errW_some] <;> rfl), by (with_reducible repeat (first | apply Kd.R_alloc | apply Kd.R_drewN | apply Kd.R_drew)); exact HO198.out, by repeat (first | (with_reducible first | exact HB.out | apply below_alloc | apply pw_below_drewN | apply below_drew1) | exact HB.out)⟩
            · rw [if_neg c14] at H
              exact absurd H (by simp)
end Go.Proofs.Ytihecimbhhlhaaa.PRs
