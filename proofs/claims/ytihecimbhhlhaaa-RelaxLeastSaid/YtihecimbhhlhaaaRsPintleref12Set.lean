/- pintleref12_Set: a plain function with the same answers as the program's, and the proof of it, as a program has written them. -/
import Derived.Test.YtihecimbhhlhaaaRsBase
import Derived.Test.YtihecimbhhlhaaaRsPintleref12Short
namespace Go.Proofs.Ytihecimbhhlhaaa.PRs
open Go.RowKit Go.Proofs.YtihecimbhhlhaaaW.PrintWords Go.Proofs.YtihecimbhhlhaaaW.PrintLast Go.Proofs.YtihecimbhhlhaaaW.PrintMore
attribute [local go_sem] max2_int min2_int max_two min_two max_three min_three max_four min_four   -- for this text's walks alone
set_option linter.unusedVariables false
set_option linter.unusedSimpArgs false


/-! ### pintleref12_Set: function 23 -/
mutual
def pintleref12_Set.j0 : Nat → Int → Int → Bool → Option ((List (S32)))
  | 0, _, _, _ => none
  | k + 1, x0, x1, x13 => if x13 = true then (some (([] : List (S32)))) else ((pintleref12_short.f (wrap64 (x1))).bind fun t235 => (if t235 = true then (some (([(⟨19, x0, 0, 0, x1⟩ : S32)] : List (S32)))) else (if (Int.tmod (wrap64 (x1)) 4096) > 2047 then (pintleref12_Set.j1 k x0 x1 (wrap64 ((Int.tmod (wrap64 (x1)) 4096) - 4096))) else (pintleref12_Set.j1 k x0 x1 (Int.tmod (wrap64 (x1)) 4096)))))
def pintleref12_Set.j1 : Nat → Int → Int → Int → Option ((List (S32)))
  | 0, _, _, _ => none
  | k + 1, x0, x1, x5 => if x5 < (-2048) then (pintleref12_Set.j2 k x0 x1 (wrap64 (x5 + 4096))) else (pintleref12_Set.j2 k x0 x1 x5)
def pintleref12_Set.j2 : Nat → Int → Int → Int → Option ((List (S32)))
  | 0, _, _, _ => none
  | k + 1, x0, x1, x5 => if (wrap64 ((wrap64 (x1)) - x5)) = 2147483648 then ((some (([(⟨42, x0, 0, 0, (-2147483648)⟩ : S32)] : List (S32)) : List (S32))).bind fun y239 => (if x5 = 0 then (some y239) else (if y239.length < 3518437208883 then (some (y239 ++ [(⟨19, x0, x0, 0, wrap32 (x5)⟩ : S32)])) else (none)))) else ((some (([(⟨42, x0, 0, 0, wrap32 (wrap64 ((wrap64 (x1)) - x5))⟩ : S32)] : List (S32)) : List (S32))).bind fun y245 => (if x5 = 0 then (some y245) else (if y245.length < 3518437208883 then (some (y245 ++ [(⟨19, x0, x0, 0, wrap32 (x5)⟩ : S32)])) else (none))))
end
def pintleref12_Set.f (k : Nat) (a0 : Int) (a1 : Int) : Option ((List (S32))) := if a0 < 1 then (pintleref12_Set.j0 k a0 a1 true) else (pintleref12_Set.j0 k a0 a1 (decide (a0 > 31)))
theorem pintleref12_Set.mono_l : ∀ k, (∀ y0 y1 y2, LeO (pintleref12_Set.j0 k y0 y1 y2) (pintleref12_Set.j0 (k + 1) y0 y1 y2)) ∧ (∀ y0 y1 y2, LeO (pintleref12_Set.j1 k y0 y1 y2) (pintleref12_Set.j1 (k + 1) y0 y1 y2)) ∧ (∀ y0 y1 y2, LeO (pintleref12_Set.j2 k y0 y1 y2) (pintleref12_Set.j2 (k + 1) y0 y1 y2))
  | 0 => ⟨fun _ _ _ r h => by simp [pintleref12_Set.j0] at h, fun _ _ _ r h => by simp [pintleref12_Set.j1] at h, fun _ _ _ r h => by simp [pintleref12_Set.j2] at h⟩
  | k + 1 => by
    obtain ⟨ih0, ih1, ih2⟩ := pintleref12_Set.mono_l k
    refine ⟨?_, ?_, ?_⟩
    · intro y0 y1 y2
      unfold pintleref12_Set.j0
      repeat' first
      | (with_reducible exact ih0 _ _ _)
      | (with_reducible exact ih1 _ _ _)
      | (with_reducible exact ih2 _ _ _)
      | (with_reducible exact LeO.refl _)
      | (with_reducible exact LeO.none _)
      | (with_reducible refine LeO.ite ?_ ?_)
      | (with_reducible refine LeO.bind ?_ (fun _ => ?_))
      | exact ih0 _ _ _
      | exact ih1 _ _ _
      | exact ih2 _ _ _
      | exact LeO.none _
      | refine LeO.ite ?_ ?_
      | refine LeO.bind ?_ (fun _ => ?_)
    · intro y0 y1 y2
      unfold pintleref12_Set.j1
      repeat' first
      | (with_reducible exact ih0 _ _ _)
      | (with_reducible exact ih1 _ _ _)
      | (with_reducible exact ih2 _ _ _)
      | (with_reducible exact LeO.refl _)
      | (with_reducible exact LeO.none _)
      | (with_reducible refine LeO.ite ?_ ?_)
      | (with_reducible refine LeO.bind ?_ (fun _ => ?_))
      | exact ih0 _ _ _
      | exact ih1 _ _ _
      | exact ih2 _ _ _
      | exact LeO.none _
      | refine LeO.ite ?_ ?_
      | refine LeO.bind ?_ (fun _ => ?_)
    · intro y0 y1 y2
      unfold pintleref12_Set.j2
      repeat' first
      | (with_reducible exact ih0 _ _ _)
      | (with_reducible exact ih1 _ _ _)
      | (with_reducible exact ih2 _ _ _)
      | (with_reducible exact LeO.refl _)
      | (with_reducible exact LeO.none _)
      | (with_reducible refine LeO.ite ?_ ?_)
      | (with_reducible refine LeO.bind ?_ (fun _ => ?_))
      | exact ih0 _ _ _
      | exact ih1 _ _ _
      | exact ih2 _ _ _
      | exact LeO.none _
      | refine LeO.ite ?_ ?_
      | refine LeO.bind ?_ (fun _ => ?_)
theorem pintleref12_Set.mono : ∀ a0 a1 k, LeO (pintleref12_Set.f k a0 a1) (pintleref12_Set.f (k + 1) a0 a1) := by
  intro a0 a1 k
  obtain ⟨ih0, ih1, ih2⟩ := pintleref12_Set.mono_l k
  unfold pintleref12_Set.f
  repeat' first
      | (with_reducible exact ih0 _ _ _)
      | (with_reducible exact ih1 _ _ _)
      | (with_reducible exact ih2 _ _ _)
      | (with_reducible exact LeO.refl _)
      | (with_reducible exact LeO.none _)
      | (with_reducible refine LeO.ite ?_ ?_)
      | (with_reducible refine LeO.bind ?_ (fun _ => ?_))
      | exact ih0 _ _ _
      | exact ih1 _ _ _
      | exact ih2 _ _ _
      | exact LeO.none _
      | refine LeO.ite ?_ ?_
      | refine LeO.bind ?_ (fun _ => ?_)
set_option maxHeartbeats 8000000 in
set_option maxRecDepth 100000 in
theorem pintleref12_Set.calls (k : Nat) (a0 : Int) (a1 : Int) (r : List (S32)) (w : World) (h : pintleref12_Set.f k a0 a1 = some r) :
    Calls Try.prog 23 #[.int .i64 a0, .int .i32 a1] w fun e w' => ∃ v0_ : Value, e = .returned (v0_) ∧ Kd.R k32 32 w' w.heap.size (fun _ => True) v0_ r ∧ Below w.heap.size w w' := by
  have hu32 := Try.underlying32
  have HB := Aside0.mk (Below.refl w.heap.size w)
  have H : (if a0 < 1 then (pintleref12_Set.j0 k a0 a1 true) else (pintleref12_Set.j0 k a0 a1 (decide (a0 > 31)))) = some r := h
  clear h
  have HC3 := Aside0.mk H
  clear H
  go_enter Try.func23, Try.ntmps23
  go_upto_region 1 with (fail)
  go_cut [13] (fun v13 wc => ∃ (kq : Nat) (x13_2 : Bool), v13 = .bool x13_2 ∧ Aside0 (pintleref12_Set.j0 kq a0 a1 x13_2 = some r) ∧ Aside0 (kq ≤ k) ∧ Aside0 (Below w.heap.size w wc))
  case first =>
    have H := HC3.out
    clear HC3
    by_cases c4 : a0 < 1
    · rw [if_pos c4] at H
      have c4b0 : decide (a0 < 1) = true := decide_eq_true c4
      clear c4
      (first | rw [c4b0] | (simp only [i64_w, i32_w]; rw [c4b0]) | skip)
      have H' := Aside0.mk H
      clear H
      go_wp2
      go_meet
      case rel => exact ⟨_, (true), (by first | rfl | (simp; done) | (simp [*]; done)), H', ⟨by first | omega | exact Nat.le_refl _⟩, ⟨by repeat (first | (with_reducible first | exact HB.out | apply below_alloc | apply pw_below_drewN | apply below_drew1) | exact HB.out)⟩⟩
    · rw [if_neg c4] at H
      have c4b0 : decide (a0 < 1) = false := decide_eq_false c4
      clear c4
      (first | rw [c4b0] | (simp only [i64_w, i32_w]; rw [c4b0]) | skip)
      have H' := Aside0.mk H
      clear H
      go_wp2
      go_meet
      case rel => exact ⟨_, (decide (a0 > 31)), (by first | rfl | (simp; done) | (simp [*]; done)), H', ⟨by first | omega | exact Nat.le_refl _⟩, ⟨by repeat (first | (with_reducible first | exact HB.out | apply below_alloc | apply pw_below_drewN | apply below_drew1) | exact HB.out)⟩⟩
  case rest =>
    clear HC3
    try clear c2
    try clear p2
    try clear c4
    try clear c4b0
    obtain ⟨kq, x13_2, rfl, HA, HJ2, HB⟩ := hcut
    cases kq with
    | zero => exact absurd HA.out (by simp [pintleref12_Set.j0])
    | succ kj2 =>
      have H := HA.out
      clear HA
      simp only [pintleref12_Set.j0] at H
      by_cases c5 : x13_2 = true
      · subst c5
        have H1 : (some (([] : List (S32)))) = some r := by rw [if_pos rfl] at H; exact H
        clear H
        have H := H1
        clear H1
        obtain ⟨y232, hy232⟩ : ∃ y_ : List (S32), y_ = (([] : List (S32))) := ⟨_, rfl⟩
        replace H : (some y232) = some r := by first | (rw [hy232]; with_reducible exact H) | (have H2_ := (Option.bind_some _ _).symm.trans H; rw [hy232]; with_reducible exact H2_) | (have H2_ := (Option.bind_some _ _).symm.trans H; with_reducible exact H2_) | with_reducible exact H | (rw [hy232]; exact H) | exact H
        have Ny232 := Aside0.mk hy232
        clear hy232
        obtain rfl := Option.some.inj H
        go_wp2_with (first | ((with_reducible refine gate_dst (N := 14) rfl ?_); refine Kd.R_lit k32 _ 32 ?hg (N := 14) ?hd (xs := ([] : List (S32))) (inner := []) (ok := fun _ => True) (okp := fun _ => True) ?hr ?hp (fun _ hk => hk) trivial (Below.refl _ _) (Nat.le_refl _) (by simp) ?_; (case hd => rfl); (case hg => rfl); (case hr => first | (go_simp; done) | (go_simp; rfl)); (case hp => exact (Reps.none _ _)); intro v233 w6 ho7 hb hg_ hnew_; clear hg_ hnew_; (first | rw [← Ny232.out] at ho7 | (simp only [Int.reduceToNat] at ho7; rw [← Ny232.out] at ho7)); have n0_ := Aside0.mk (Kd.R_lower ho7 (below_size (by repeat (first | (with_reducible first | exact HB.out | apply below_alloc | apply pw_below_drewN | apply below_drew1) | exact HB.out)))); have n1_ := Aside0.mk (below_step (by repeat (first | (with_reducible first | exact HB.out | apply below_alloc | apply pw_below_drewN | apply below_drew1) | exact HB.out)) hb); clear HB; have HO234 := n0_; have HB := n1_; clear n0_ n1_; clear hb ho7))
        go_ret
        exact ⟨_, by first | rfl | (simp [errW_none, errW_some] <;> rfl) | (simp [*, errW_none, errW_some] <;> rfl), by (with_reducible repeat (first | apply Kd.R_alloc | apply Kd.R_drewN | apply Kd.R_drew)); exact HO234.out, by repeat (first | (with_reducible first | exact HB.out | apply below_alloc | apply pw_below_drewN | apply below_drew1) | exact HB.out)⟩
      · replace c5 := Bool.eq_false_iff.mpr c5
        subst c5
        have H1 : ((pintleref12_short.f (wrap64 (a1))).bind fun t235 => (if t235 = true then (some (([(⟨19, a0, 0, 0, a1⟩ : S32)] : List (S32)))) else (if (Int.tmod (wrap64 (a1)) 4096) > 2047 then (pintleref12_Set.j1 kj2 a0 a1 (wrap64 ((Int.tmod (wrap64 (a1)) 4096) - 4096))) else (pintleref12_Set.j1 kj2 a0 a1 (Int.tmod (wrap64 (a1)) 4096))))) = some r := by rw [if_neg (show ¬ (false = true) by decide)] at H; exact H
        clear H
        have H := H1
        clear H1
        replace H := Option.bind_eq_some_iff.mp H
        obtain ⟨t235, A80, H⟩ := H
        replace H : (if t235 = true then (some (([(⟨19, a0, 0, 0, a1⟩ : S32)] : List (S32)))) else (if (Int.tmod (wrap64 (a1)) 4096) > 2047 then (pintleref12_Set.j1 kj2 a0 a1 (wrap64 ((Int.tmod (wrap64 (a1)) 4096) - 4096))) else (pintleref12_Set.j1 kj2 a0 a1 (Int.tmod (wrap64 (a1)) 4096)))) = some r := H
        have A8 := Aside0.mk A80
        clear A80
        by_cases c9 : t235 = true
        · subst c9
          have H1 : (some (([(⟨19, a0, 0, 0, a1⟩ : S32)] : List (S32)))) = some r := by rw [if_pos rfl] at H; exact H
          clear H
          have H := H1
          clear H1
          obtain ⟨y236, hy236⟩ : ∃ y_ : List (S32), y_ = (([(⟨19, a0, 0, 0, a1⟩ : S32)] : List (S32))) := ⟨_, rfl⟩
          replace H : (some y236) = some r := by first | (rw [hy236]; with_reducible exact H) | (have H2_ := (Option.bind_some _ _).symm.trans H; rw [hy236]; with_reducible exact H2_) | (have H2_ := (Option.bind_some _ _).symm.trans H; with_reducible exact H2_) | with_reducible exact H | (rw [hy236]; exact H) | exact H
          have Ny236 := Aside0.mk hy236
          clear hy236
          obtain rfl := Option.some.inj H
          go_wp2_with (first | ((with_reducible refine gate_callee (f := 36) rfl ?_); refine goesL_ (some 17) rfl rfl Try.func36 (by kernel_rfl) rfl #[.int .i64 (wrap64 (a1))] rfl (by (try simp only [List.map_toArray, List.map_cons, List.map_nil]); first | done | rfl | (simp only [List.length_drop, List.length_take]; rfl)) ?_; (with_reducible refine (pintleref12_short.calls (wrap64 (a1)) true _ A8.out).mono ?_); rintro e w' ⟨rfl, ⟨nd, rfl⟩⟩; refine ⟨_, rfl, ?_⟩) | ((with_reducible refine gate_dst (N := 21) rfl ?_); refine Kd.R_lit k32 _ 32 ?hg (N := 21) ?hd (xs := ([(⟨19, a0, 0, 0, a1⟩ : S32)] : List (S32))) (inner := [.int .i64 19, .int .i64 a0, .int .i64 0, .int .i64 0, .int .i32 a1]) (ok := fun _ => True) (okp := fun _ => True) ?hr ?hp (fun _ hk => hk) trivial (Below.refl _ _) (Nat.le_refl _) (by simp) ?_; (case hd => rfl); (case hg => rfl); (case hr => first | (go_simp; done) | (go_simp; rfl)); (case hp => exact (Reps.c5 (show Kd.M k32 _ _ _ (⟨19, a0, 0, 0, a1⟩ : S32) [.int .i64 19, .int .i64 a0, .int .i64 0, .int .i64 0, .int .i32 a1] from (k32_mkM _ _ _ (⟨19, a0, 0, 0, a1⟩ : S32) )) (Reps.none _ _))); intro v237 w10 ho11 hb hg_ hnew_; clear hg_ hnew_; (first | rw [← Ny236.out] at ho11 | (simp only [Int.reduceToNat] at ho11; rw [← Ny236.out] at ho11)); have n0_ := Aside0.mk (Kd.R_lower ho11 (below_size (by repeat (first | (with_reducible first | exact HB.out | apply below_alloc | apply pw_below_drewN | apply below_drew1) | exact HB.out)))); have n1_ := Aside0.mk (below_step (by repeat (first | (with_reducible first | exact HB.out | apply below_alloc | apply pw_below_drewN | apply below_drew1) | exact HB.out)) hb); clear HB; have HO238 := n0_; have HB := n1_; clear n0_ n1_; clear hb ho11))
          go_ret
          exact ⟨_, by first | rfl | (simp [errW_none, errW_some] <;> rfl) | (simp [*, errW_none, errW_some] <;> rfl), by (with_reducible repeat (first | apply Kd.R_alloc | apply Kd.R_drewN | apply Kd.R_drew)); exact HO238.out, by repeat (first | (with_reducible first | exact HB.out | apply below_alloc | apply pw_below_drewN | apply below_drew1) | exact HB.out)⟩
        · replace c9 := Bool.eq_false_iff.mpr c9
          subst c9
          have H1 : (if (Int.tmod (wrap64 (a1)) 4096) > 2047 then (pintleref12_Set.j1 kj2 a0 a1 (wrap64 ((Int.tmod (wrap64 (a1)) 4096) - 4096))) else (pintleref12_Set.j1 kj2 a0 a1 (Int.tmod (wrap64 (a1)) 4096))) = some r := by rw [if_neg (show ¬ (false = true) by decide)] at H; exact H
          clear H
          have H := H1
          clear H1
          have HC12 := Aside0.mk H
          clear H
          go_upto_if 26 with (first | ((with_reducible refine gate_callee (f := 36) rfl ?_); refine goesL_ (some 17) rfl rfl Try.func36 (by kernel_rfl) rfl #[.int .i64 (wrap64 (a1))] rfl (by (try simp only [List.map_toArray, List.map_cons, List.map_nil]); first | done | rfl | (simp only [List.length_drop, List.length_take]; rfl)) ?_; (with_reducible refine (pintleref12_short.calls (wrap64 (a1)) false _ A8.out).mono ?_); rintro e w' ⟨rfl, ⟨nd, rfl⟩⟩; refine ⟨_, rfl, ?_⟩))
          (try simp only [Act.put, List.setIfInBounds_toArray, List.set_cons_zero, List.set_cons_succ])
          go_cut [5] (fun v5 wc => ∃ (kq : Nat) (x5_11 : Int), v5 = .int .i64 x5_11 ∧ Aside0 (pintleref12_Set.j1 kq a0 a1 x5_11 = some r) ∧ Aside0 (kq ≤ kj2) ∧ Aside0 (Below w.heap.size w wc))
          case first =>
            have H := HC12.out
            clear HC12
            by_cases c13 : (Int.tmod (wrap64 (a1)) 4096) > 2047
            · rw [if_pos c13] at H
              have c13b0 : decide (2047 < (Int.tmod (wrap64 (a1)) 4096)) = true := decide_eq_true c13
              clear c13
              (first | rw [c13b0] | (simp only [i64_w, i32_w]; rw [c13b0]) | skip)
              have H' := Aside0.mk H
              clear H
              go_wp2
              go_meet
              case rel => exact ⟨_, (wrap64 ((Int.tmod (wrap64 (a1)) 4096) - 4096)), (by first | rfl | (simp; done) | (simp [*]; done)), H', ⟨by have := HJ2.out; first | omega | exact Nat.le_refl _⟩, ⟨by repeat (first | (with_reducible first | exact HB.out | apply below_alloc | apply pw_below_drewN | apply below_drew1) | exact HB.out)⟩⟩
            · rw [if_neg c13] at H
              have c13b0 : decide (2047 < (Int.tmod (wrap64 (a1)) 4096)) = false := decide_eq_false c13
              clear c13
              (first | rw [c13b0] | (simp only [i64_w, i32_w]; rw [c13b0]) | skip)
              have H' := Aside0.mk H
              clear H
              go_wp2
              go_meet
              case rel => exact ⟨_, (Int.tmod (wrap64 (a1)) 4096), (by first | rfl | (simp; done) | (simp [*]; done)), H', ⟨by have := HJ2.out; first | omega | exact Nat.le_refl _⟩, ⟨by repeat (first | (with_reducible first | exact HB.out | apply below_alloc | apply pw_below_drewN | apply below_drew1) | exact HB.out)⟩⟩
          case rest =>
            clear HC12
            try clear c1
            try clear c2
            try clear p2
            try clear c3
            try clear c4
            try clear c4b0
            try clear c5
            try clear p6
            try clear c9
            try clear c13
            try clear c13b0
            try clear p2
            obtain ⟨kq, x5_11, rfl, HA, HJ11, HB⟩ := hcut
            cases kq with
            | zero => exact absurd HA.out (by simp [pintleref12_Set.j1])
            | succ kj11 =>
              have H := HA.out
              clear HA
              simp only [pintleref12_Set.j1] at H
              have HC14 := Aside0.mk H
              clear H
              go_upto_if 30 with (fail)
              go_cut [5] (fun v5 wc => ∃ (kq : Nat) (x5_13 : Int), v5 = .int .i64 x5_13 ∧ Aside0 (pintleref12_Set.j2 kq a0 a1 x5_13 = some r) ∧ Aside0 (kq ≤ kj11) ∧ Aside0 (Below w.heap.size w wc))
              case first =>
                have H := HC14.out
                clear HC14
                by_cases c15 : x5_11 < (-2048)
                · rw [if_pos c15] at H
                  have c15b0 : decide (x5_11 < (-2048)) = true := decide_eq_true c15
                  clear c15
                  (first | rw [c15b0] | (simp only [i64_w, i32_w]; rw [c15b0]) | skip)
                  have H' := Aside0.mk H
                  clear H
                  go_wp2
                  go_meet
                  case rel => exact ⟨_, (wrap64 (x5_11 + 4096)), (by first | rfl | (simp; done) | (simp [*]; done)), H', ⟨by have := HJ2.out; have := HJ11.out; first | omega | exact Nat.le_refl _⟩, ⟨by repeat (first | (with_reducible first | exact HB.out | apply below_alloc | apply pw_below_drewN | apply below_drew1) | exact HB.out)⟩⟩
                · rw [if_neg c15] at H
                  have c15b0 : decide (x5_11 < (-2048)) = false := decide_eq_false c15
                  clear c15
                  (first | rw [c15b0] | (simp only [i64_w, i32_w]; rw [c15b0]) | skip)
                  have H' := Aside0.mk H
                  clear H
                  go_wp2
                  go_meet
                  case rel => exact ⟨_, (x5_11), (by first | rfl | (simp; done) | (simp [*]; done)), H', ⟨by have := HJ2.out; have := HJ11.out; first | omega | exact Nat.le_refl _⟩, ⟨by repeat (first | (with_reducible first | exact HB.out | apply below_alloc | apply pw_below_drewN | apply below_drew1) | exact HB.out)⟩⟩
              case rest =>
                clear HC14
                try clear c1
                try clear c2
                try clear p2
                try clear c3
                try clear c4
                try clear c4b0
                try clear c5
                try clear p6
                try clear c9
                try clear c13
                try clear c13b0
                try clear c15
                try clear c15b0
                try clear p2
                try clear p6
                obtain ⟨kq, x5_13, rfl, HA, HJ13, HB⟩ := hcut
                cases kq with
                | zero => exact absurd HA.out (by simp [pintleref12_Set.j2])
                | succ kj13 =>
                  have H := HA.out
                  clear HA
                  simp only [pintleref12_Set.j2] at H
                  by_cases c16 : (wrap64 ((wrap64 (a1)) - x5_13)) = 2147483648
                  · rw [if_pos c16] at H
                    have c16b0 : ((wrap64 ((wrap64 (a1)) - x5_13)) == 2147483648) = true := beq_iff_eq.mpr c16
                    have c16b1 : ((wrap64 ((wrap64 (a1)) - x5_13)) != 2147483648) = false := bne_eq_false_iff_eq.mpr c16
                    clear c16
                    obtain ⟨y239, hy239⟩ : ∃ y_ : List (S32), y_ = (([(⟨42, a0, 0, 0, (-2147483648)⟩ : S32)] : List (S32))) := ⟨_, rfl⟩
                    replace H : (if x5_13 = 0 then (some y239) else (if y239.length < 3518437208883 then (some (y239 ++ [(⟨19, a0, a0, 0, wrap32 (x5_13)⟩ : S32)])) else (none))) = some r := by first | (rw [hy239]; with_reducible exact H) | (have H2_ := (Option.bind_some _ _).symm.trans H; rw [hy239]; with_reducible exact H2_) | (have H2_ := (Option.bind_some _ _).symm.trans H; with_reducible exact H2_) | with_reducible exact H | (rw [hy239]; exact H) | exact H
                    have Ny239 := Aside0.mk hy239
                    clear hy239
                    by_cases c17 : x5_13 = 0
                    · rw [if_pos c17] at H
                      have c17b0 : (x5_13 == 0) = true := beq_iff_eq.mpr c17
                      have c17b1 : (x5_13 != 0) = false := bne_eq_false_iff_eq.mpr c17
                      clear c17
                      obtain rfl := Option.some.inj H
                      go_wp2_with (first | ((with_reducible refine gate_dst (N := 43) rfl ?_); refine Kd.R_lit k32 _ 32 ?hg (N := 43) ?hd (xs := ([(⟨42, a0, 0, 0, (-2147483648)⟩ : S32)] : List (S32))) (inner := [.int .i64 42, .int .i64 a0, .int .i64 0, .int .i64 0, .int .i32 (-2147483648)]) (ok := fun _ => True) (okp := fun _ => True) ?hr ?hp (fun _ hk => hk) trivial (Below.refl _ _) (Nat.le_refl _) (by simp) ?_; (case hd => rfl); (case hg => rfl); (case hr => first | (go_simp; done) | (go_simp; rfl)); (case hp => exact (Reps.c5 (show Kd.M k32 _ _ _ (⟨42, a0, 0, 0, (-2147483648)⟩ : S32) [.int .i64 42, .int .i64 a0, .int .i64 0, .int .i64 0, .int .i32 (-2147483648)] from (k32_mkM _ _ _ (⟨42, a0, 0, 0, (-2147483648)⟩ : S32) )) (Reps.none _ _))); intro v240 w18 ho19 hb hg_ hnew_; clear hg_ hnew_; (first | rw [← Ny239.out] at ho19 | (simp only [Int.reduceToNat] at ho19; rw [← Ny239.out] at ho19)); have n0_ := Aside0.mk (Kd.R_lower ho19 (below_size (by repeat (first | (with_reducible first | exact HB.out | apply below_alloc | apply pw_below_drewN | apply below_drew1) | exact HB.out)))); have n1_ := Aside0.mk (below_step (by repeat (first | (with_reducible first | exact HB.out | apply below_alloc | apply pw_below_drewN | apply below_drew1) | exact HB.out)) hb); clear HB; have HO241 := n0_; have HB := n1_; clear n0_ n1_; clear hb ho19))
                      go_ret
                      exact ⟨_, by first | rfl | (simp [errW_none, errW_some] <;> rfl) | (simp [*, errW_none, errW_some] <;> rfl), by (with_reducible repeat (first | apply Kd.R_alloc | apply Kd.R_drewN | apply Kd.R_drew)); exact HO241.out, by repeat (first | (with_reducible first | exact HB.out | apply below_alloc | apply pw_below_drewN | apply below_drew1) | exact HB.out)⟩
                    · rw [if_neg c17] at H
                      have c17b0 : (x5_13 == 0) = false := beq_eq_false_iff_ne.mpr c17
                      have c17b1 : (x5_13 != 0) = true := bne_iff_ne.mpr c17
                      by_cases c20 : y239.length < 3518437208883
                      · rw [if_pos c20] at H
                        have LMc20 := Aside0.mk c20
                        clear c20
                        obtain ⟨y242, hy242⟩ : ∃ y_ : List (S32), y_ = (y239 ++ [(⟨19, a0, a0, 0, wrap32 (x5_13)⟩ : S32)]) := ⟨_, rfl⟩
                        replace H : (some y242) = some r := by first | (rw [hy242]; with_reducible exact H) | (have H2_ := (Option.bind_some _ _).symm.trans H; rw [hy242]; with_reducible exact H2_) | (have H2_ := (Option.bind_some _ _).symm.trans H; with_reducible exact H2_) | with_reducible exact H | (rw [hy242]; exact H) | exact H
                        have Ny242 := Aside0.mk hy242
                        clear hy242
                        obtain rfl := Option.some.inj H
                        go_wp2_with (first | ((with_reducible refine gate_dst (N := 43) rfl ?_); refine Kd.R_lit k32 _ 32 ?hg (N := 43) ?hd (xs := ([(⟨42, a0, 0, 0, (-2147483648)⟩ : S32)] : List (S32))) (inner := [.int .i64 42, .int .i64 a0, .int .i64 0, .int .i64 0, .int .i32 (-2147483648)]) (ok := fun _ => True) (okp := fun _ => True) ?hr ?hp (fun _ hk => hk) trivial (Below.refl _ _) (Nat.le_refl _) (by simp) ?_; (case hd => rfl); (case hg => rfl); (case hr => first | (go_simp; done) | (go_simp; rfl)); (case hp => exact (Reps.c5 (show Kd.M k32 _ _ _ (⟨42, a0, 0, 0, (-2147483648)⟩ : S32) [.int .i64 42, .int .i64 a0, .int .i64 0, .int .i64 0, .int .i32 (-2147483648)] from (k32_mkM _ _ _ (⟨42, a0, 0, 0, (-2147483648)⟩ : S32) )) (Reps.none _ _))); intro v240 w21 ho22 hb hg_ hnew_; clear hg_ hnew_; (first | rw [← Ny239.out] at ho22 | (simp only [Int.reduceToNat] at ho22; rw [← Ny239.out] at ho22)); have n0_ := Aside0.mk (Kd.R_lower ho22 (below_size (by repeat (first | (with_reducible first | exact HB.out | apply below_alloc | apply pw_below_drewN | apply below_drew1) | exact HB.out)))); have n1_ := Aside0.mk (below_step (by repeat (first | (with_reducible first | exact HB.out | apply below_alloc | apply pw_below_drewN | apply below_drew1) | exact HB.out)) hb); clear HB; have HO241 := n0_; have HB := n1_; clear n0_ n1_; clear hb ho22) | ((with_reducible refine gate_builtin (b := .append) (xs := #[.tmp 46, .tmp 52]) rfl ?_); at_builtin; refine Kd.R_append k32 (w0 := w) w.heap.size rfl (.tmp 46) (.tmp 52) 56 32 (.agg #[(.int .i64 0), (.int .i64 0), (.int .i64 0), (.int .i64 0), (.int .i32 0)]) 40 rfl Try.underlying56 info32 rfl (by decide) (by omega) v240 y239 (⟨19, a0, a0, 0, wrap32 (x5_13)⟩ : S32) [.int .i64 19, .int .i64 a0, .int .i64 a0, .int .i64 0, .int .i32 (wrap32 (x5_13))] (fun _ => True) (fun _ => False) rfl rfl ?aP (fun _ hk => hk.elim) ?aF ?aO ?aB ?aS ?aL ?_; (case aP => exact k32_mkM _ _ _ (⟨19, a0, a0, 0, wrap32 (x5_13)⟩ : S32)); (case aB => exact (by repeat (first | (with_reducible first | exact HB.out | apply below_alloc | apply pw_below_drewN | apply below_drew1) | exact HB.out))); (case aF => exact (fun _ _ => trivial)); (case aO => exact (by (with_reducible repeat (first | apply Kd.R_alloc | apply Kd.R_drewN | apply Kd.R_drew)); exact HO241.out)); (case aS => exact (below_size (by repeat (first | (with_reducible first | exact HB.out | apply below_alloc | apply pw_below_drewN | apply below_drew1) | exact HB.out)))); (case aL => have := LMc20.out; omega); intro v243 w23 ho hb hg hat; rw [← Ny242.out] at ho; have n0_ := Aside0.mk (hb); have n1_ := Aside0.mk (ho); clear HB; clear HO241; have HB := n0_; have HO244 := n1_; clear n0_ n1_; clear ho hb hg hat))
                        go_ret
                        exact ⟨_, by first | rfl | (simp [errW_none, errW_some] <;> rfl) | (simp [*, errW_none, errW_some] <;> rfl), by (with_reducible repeat (first | apply Kd.R_alloc | apply Kd.R_drewN | apply Kd.R_drew)); exact HO244.out, by repeat (first | (with_reducible first | exact HB.out | apply below_alloc | apply pw_below_drewN | apply below_drew1) | exact HB.out)⟩
                      · rw [if_neg c20] at H
                        exact absurd H (by simp)
                  · rw [if_neg c16] at H
                    have c16b0 : ((wrap64 ((wrap64 (a1)) - x5_13)) == 2147483648) = false := beq_eq_false_iff_ne.mpr c16
                    have c16b1 : ((wrap64 ((wrap64 (a1)) - x5_13)) != 2147483648) = true := bne_iff_ne.mpr c16
                    obtain ⟨y245, hy245⟩ : ∃ y_ : List (S32), y_ = (([(⟨42, a0, 0, 0, wrap32 (wrap64 ((wrap64 (a1)) - x5_13))⟩ : S32)] : List (S32))) := ⟨_, rfl⟩
                    replace H : (if x5_13 = 0 then (some y245) else (if y245.length < 3518437208883 then (some (y245 ++ [(⟨19, a0, a0, 0, wrap32 (x5_13)⟩ : S32)])) else (none))) = some r := by first | (rw [hy245]; with_reducible exact H) | (have H2_ := (Option.bind_some _ _).symm.trans H; rw [hy245]; with_reducible exact H2_) | (have H2_ := (Option.bind_some _ _).symm.trans H; with_reducible exact H2_) | with_reducible exact H | (rw [hy245]; exact H) | exact H
                    have Ny245 := Aside0.mk hy245
                    clear hy245
                    by_cases c24 : x5_13 = 0
                    · rw [if_pos c24] at H
                      have c24b0 : (x5_13 == 0) = true := beq_iff_eq.mpr c24
                      have c24b1 : (x5_13 != 0) = false := bne_eq_false_iff_eq.mpr c24
                      clear c24
                      obtain rfl := Option.some.inj H
                      go_wp2_with (first | ((with_reducible refine gate_dst (N := 43) rfl ?_); refine Kd.R_lit k32 _ 32 ?hg (N := 43) ?hd (xs := ([(⟨42, a0, 0, 0, wrap32 (wrap64 ((wrap64 (a1)) - x5_13))⟩ : S32)] : List (S32))) (inner := [.int .i64 42, .int .i64 a0, .int .i64 0, .int .i64 0, .int .i32 (wrap32 (wrap64 ((wrap64 (a1)) - x5_13)))]) (ok := fun _ => True) (okp := fun _ => True) ?hr ?hp (fun _ hk => hk) trivial (Below.refl _ _) (Nat.le_refl _) (by simp) ?_; (case hd => rfl); (case hg => rfl); (case hr => first | (go_simp; done) | (go_simp; rfl)); (case hp => exact (Reps.c5 (show Kd.M k32 _ _ _ (⟨42, a0, 0, 0, wrap32 (wrap64 ((wrap64 (a1)) - x5_13))⟩ : S32) [.int .i64 42, .int .i64 a0, .int .i64 0, .int .i64 0, .int .i32 (wrap32 (wrap64 ((wrap64 (a1)) - x5_13)))] from (k32_mkM _ _ _ (⟨42, a0, 0, 0, wrap32 (wrap64 ((wrap64 (a1)) - x5_13))⟩ : S32) )) (Reps.none _ _))); intro v246 w25 ho26 hb hg_ hnew_; clear hg_ hnew_; (first | rw [← Ny245.out] at ho26 | (simp only [Int.reduceToNat] at ho26; rw [← Ny245.out] at ho26)); have n0_ := Aside0.mk (Kd.R_lower ho26 (below_size (by repeat (first | (with_reducible first | exact HB.out | apply below_alloc | apply pw_below_drewN | apply below_drew1) | exact HB.out)))); have n1_ := Aside0.mk (below_step (by repeat (first | (with_reducible first | exact HB.out | apply below_alloc | apply pw_below_drewN | apply below_drew1) | exact HB.out)) hb); clear HB; have HO247 := n0_; have HB := n1_; clear n0_ n1_; clear hb ho26))
                      go_ret
                      exact ⟨_, by first | rfl | (simp [errW_none, errW_some] <;> rfl) | (simp [*, errW_none, errW_some] <;> rfl), by (with_reducible repeat (first | apply Kd.R_alloc | apply Kd.R_drewN | apply Kd.R_drew)); exact HO247.out, by repeat (first | (with_reducible first | exact HB.out | apply below_alloc | apply pw_below_drewN | apply below_drew1) | exact HB.out)⟩
                    · rw [if_neg c24] at H
                      have c24b0 : (x5_13 == 0) = false := beq_eq_false_iff_ne.mpr c24
                      have c24b1 : (x5_13 != 0) = true := bne_iff_ne.mpr c24
                      by_cases c27 : y245.length < 3518437208883
                      · rw [if_pos c27] at H
                        have LMc27 := Aside0.mk c27
                        clear c27
                        obtain ⟨y248, hy248⟩ : ∃ y_ : List (S32), y_ = (y245 ++ [(⟨19, a0, a0, 0, wrap32 (x5_13)⟩ : S32)]) := ⟨_, rfl⟩
                        replace H : (some y248) = some r := by first | (rw [hy248]; with_reducible exact H) | (have H2_ := (Option.bind_some _ _).symm.trans H; rw [hy248]; with_reducible exact H2_) | (have H2_ := (Option.bind_some _ _).symm.trans H; with_reducible exact H2_) | with_reducible exact H | (rw [hy248]; exact H) | exact H
                        have Ny248 := Aside0.mk hy248
                        clear hy248
                        obtain rfl := Option.some.inj H
                        go_wp2_with (first | ((with_reducible refine gate_dst (N := 43) rfl ?_); refine Kd.R_lit k32 _ 32 ?hg (N := 43) ?hd (xs := ([(⟨42, a0, 0, 0, wrap32 (wrap64 ((wrap64 (a1)) - x5_13))⟩ : S32)] : List (S32))) (inner := [.int .i64 42, .int .i64 a0, .int .i64 0, .int .i64 0, .int .i32 (wrap32 (wrap64 ((wrap64 (a1)) - x5_13)))]) (ok := fun _ => True) (okp := fun _ => True) ?hr ?hp (fun _ hk => hk) trivial (Below.refl _ _) (Nat.le_refl _) (by simp) ?_; (case hd => rfl); (case hg => rfl); (case hr => first | (go_simp; done) | (go_simp; rfl)); (case hp => exact (Reps.c5 (show Kd.M k32 _ _ _ (⟨42, a0, 0, 0, wrap32 (wrap64 ((wrap64 (a1)) - x5_13))⟩ : S32) [.int .i64 42, .int .i64 a0, .int .i64 0, .int .i64 0, .int .i32 (wrap32 (wrap64 ((wrap64 (a1)) - x5_13)))] from (k32_mkM _ _ _ (⟨42, a0, 0, 0, wrap32 (wrap64 ((wrap64 (a1)) - x5_13))⟩ : S32) )) (Reps.none _ _))); intro v246 w28 ho29 hb hg_ hnew_; clear hg_ hnew_; (first | rw [← Ny245.out] at ho29 | (simp only [Int.reduceToNat] at ho29; rw [← Ny245.out] at ho29)); have n0_ := Aside0.mk (Kd.R_lower ho29 (below_size (by repeat (first | (with_reducible first | exact HB.out | apply below_alloc | apply pw_below_drewN | apply below_drew1) | exact HB.out)))); have n1_ := Aside0.mk (below_step (by repeat (first | (with_reducible first | exact HB.out | apply below_alloc | apply pw_below_drewN | apply below_drew1) | exact HB.out)) hb); clear HB; have HO247 := n0_; have HB := n1_; clear n0_ n1_; clear hb ho29) | ((with_reducible refine gate_builtin (b := .append) (xs := #[.tmp 46, .tmp 52]) rfl ?_); at_builtin; refine Kd.R_append k32 (w0 := w) w.heap.size rfl (.tmp 46) (.tmp 52) 56 32 (.agg #[(.int .i64 0), (.int .i64 0), (.int .i64 0), (.int .i64 0), (.int .i32 0)]) 40 rfl Try.underlying56 info32 rfl (by decide) (by omega) v246 y245 (⟨19, a0, a0, 0, wrap32 (x5_13)⟩ : S32) [.int .i64 19, .int .i64 a0, .int .i64 a0, .int .i64 0, .int .i32 (wrap32 (x5_13))] (fun _ => True) (fun _ => False) rfl rfl ?aP (fun _ hk => hk.elim) ?aF ?aO ?aB ?aS ?aL ?_; (case aP => exact k32_mkM _ _ _ (⟨19, a0, a0, 0, wrap32 (x5_13)⟩ : S32)); (case aB => exact (by repeat (first | (with_reducible first | exact HB.out | apply below_alloc | apply pw_below_drewN | apply below_drew1) | exact HB.out))); (case aF => exact (fun _ _ => trivial)); (case aO => exact (by (with_reducible repeat (first | apply Kd.R_alloc | apply Kd.R_drewN | apply Kd.R_drew)); exact HO247.out)); (case aS => exact (below_size (by repeat (first | (with_reducible first | exact HB.out | apply below_alloc | apply pw_below_drewN | apply below_drew1) | exact HB.out)))); (case aL => have := LMc27.out; omega); intro v249 w30 ho hb hg hat; rw [← Ny248.out] at ho; have n0_ := Aside0.mk (hb); have n1_ := Aside0.mk (ho); clear HB; clear HO247; have HB := n0_; have HO250 := n1_; clear n0_ n1_; clear ho hb hg hat))
                        go_ret
                        exact ⟨_, by first | rfl | (simp [errW_none, errW_some] <;> rfl) | (simp [*, errW_none, errW_some] <;> rfl), by (with_reducible repeat (first | apply Kd.R_alloc | apply Kd.R_drewN | apply Kd.R_drew)); exact HO250.out, by repeat (first | (with_reducible first | exact HB.out | apply below_alloc | apply pw_below_drewN | apply below_drew1) | exact HB.out)⟩
                      · rw [if_neg c27] at H
                        exact absurd H (by simp)
end Go.Proofs.Ytihecimbhhlhaaa.PRs
