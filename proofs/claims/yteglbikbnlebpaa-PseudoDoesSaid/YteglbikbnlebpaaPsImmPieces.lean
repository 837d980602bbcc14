/- imm_pieces: a plain function with the same answers as the program's, and the proof of it, as a program has written them. -/
import Derived.Test.YteglbikbnlebpaaPsBase
namespace Go.Proofs.Yteglbikbnlebpaa.PPs
open Go.RowKit Go.Proofs.YteglbikbnlebpaaW.PrintWords Go.Proofs.YteglbikbnlebpaaW.PrintLast Go.Proofs.YteglbikbnlebpaaW.PrintMore
attribute [local go_sem] max2_int min2_int max_two min_two max_three min_three max_four min_four   -- for this text's walks alone
set_option linter.unusedVariables false
set_option linter.unusedSimpArgs false


/-! ### imm_pieces: function 21 -/
def imm_pieces.f (a0 : Int) : Option ((List (S57)) × Int) := if a0 = 1 then (some ((([(⟨20, 12, 0⟩ : S57)] : List (S57))), 12)) else (if a0 = 2 then (some ((([(⟨25, 7, 5⟩ : S57), (⟨7, 5, 0⟩ : S57)] : List (S57))), 12)) else (if a0 = 3 then (some ((([(⟨31, 1, 12⟩ : S57), (⟨7, 1, 11⟩ : S57), (⟨25, 6, 5⟩ : S57), (⟨8, 4, 1⟩ : S57)] : List (S57))), 13)) else (if a0 = 4 then (some ((([(⟨12, 20, 12⟩ : S57)] : List (S57))), 32)) else (if a0 = 5 then (some ((([(⟨31, 1, 20⟩ : S57), (⟨12, 8, 12⟩ : S57), (⟨20, 1, 11⟩ : S57), (⟨21, 10, 1⟩ : S57)] : List (S57))), 21)) else (some (([] : List (S57)), 0))))))
set_option maxHeartbeats 8000000 in
set_option maxRecDepth 100000 in
theorem imm_pieces.calls (a0 : Int) (r1 : List (S57)) (r2 : Int) (w : World) (h : imm_pieces.f a0 = some (r1, r2)) :
    Calls Try.prog 21 #[.int .i64 a0] w fun e w' => ∃ v0_ : Value, e = .returned (.tuple #[v0_, .int .i64 r2]) ∧ Kd.R k57 57 w' w.heap.size (fun _ => True) v0_ r1 ∧ Below w.heap.size w w' := by
  have hu57 := Try.underlying57
  have HB := Aside0.mk (Below.refl w.heap.size w)
  have H : (if a0 = 1 then (some ((([(⟨20, 12, 0⟩ : S57)] : List (S57))), 12)) else (if a0 = 2 then (some ((([(⟨25, 7, 5⟩ : S57), (⟨7, 5, 0⟩ : S57)] : List (S57))), 12)) else (if a0 = 3 then (some ((([(⟨31, 1, 12⟩ : S57), (⟨7, 1, 11⟩ : S57), (⟨25, 6, 5⟩ : S57), (⟨8, 4, 1⟩ : S57)] : List (S57))), 13)) else (if a0 = 4 then (some ((([(⟨12, 20, 12⟩ : S57)] : List (S57))), 32)) else (if a0 = 5 then (some ((([(⟨31, 1, 20⟩ : S57), (⟨12, 8, 12⟩ : S57), (⟨20, 1, 11⟩ : S57), (⟨21, 10, 1⟩ : S57)] : List (S57))), 21)) else (some (([] : List (S57)), 0))))))) = some (r1, r2) := h
  clear h
  by_cases c2 : a0 = 1
  · rw [if_pos c2] at H
    have c2b0 : (a0 == 1) = true := beq_iff_eq.mpr c2
    have c2b1 : (a0 != 1) = false := bne_eq_false_iff_eq.mpr c2
    clear c2
    obtain ⟨y136, hy136⟩ : ∃ y_ : List (S57), y_ = (([(⟨20, 12, 0⟩ : S57)] : List (S57))) := ⟨_, rfl⟩
    replace H : (some (y136, 12)) = some (r1, r2) := by first | (rw [hy136]; with_reducible exact H) | (have H2_ := (Option.bind_some _ _).symm.trans H; rw [hy136]; with_reducible exact H2_) | (have H2_ := (Option.bind_some _ _).symm.trans H; with_reducible exact H2_) | with_reducible exact H | (rw [hy136]; exact H) | exact H
    have Ny136 := Aside0.mk hy136
    clear hy136
    simp only [Option.some.injEq, Prod.mk.injEq] at H
    obtain ⟨rfl, rfl⟩ := H
    go_enter Try.func21, Try.ntmps21
    go_wp2_with (first | ((with_reducible refine gate_dst (N := 8) rfl ?_); refine Kd.R_lit k57 _ 57 ?hg (N := 8) ?hd (xs := ([(⟨20, 12, 0⟩ : S57)] : List (S57))) (inner := [.int .i64 20, .int .i64 12, .int .i64 0]) (ok := fun _ => True) (okp := fun _ => True) ?hr ?hp (fun _ hk => hk) trivial (Below.refl _ _) (Nat.le_refl _) (by simp) ?_; (case hd => rfl); (case hg => rfl); (case hr => first | (go_simp; done) | (go_simp; rfl)); (case hp => exact (Reps.c3 (show Kd.M k57 _ _ _ (⟨20, 12, 0⟩ : S57) [.int .i64 20, .int .i64 12, .int .i64 0] from (k57_mkM _ _ _ (⟨20, 12, 0⟩ : S57) )) (Reps.none _ _))); intro v137 w3 ho4 hb hg_ hnew_; clear hg_ hnew_; (first | rw [← Ny136.out] at ho4 | (simp only [Int.reduceToNat] at ho4; rw [← Ny136.out] at ho4)); have n0_ := Aside0.mk (Kd.R_lower ho4 (below_size (by repeat (first | (with_reducible first | exact HB.out | apply below_alloc | apply pw_below_drewN | apply below_drew1) | exact HB.out)))); have n1_ := Aside0.mk (below_step (by repeat (first | (with_reducible first | exact HB.out | apply below_alloc | apply pw_below_drewN | apply below_drew1) | exact HB.out)) hb); clear HB; have HO138 := n0_; have HB := n1_; clear n0_ n1_; clear hb ho4))
    go_ret2
    exact ⟨_, by first | rfl | (simp [errW_none, errW_some] <;> rfl) | (simp [*, errW_none, errW_some] <;> rfl), by (with_reducible repeat (first | apply Kd.R_alloc | apply Kd.R_drewN | apply Kd.R_drew)); exact HO138.out, by repeat (first | (with_reducible first | exact HB.out | apply below_alloc | apply pw_below_drewN | apply below_drew1) | exact HB.out)⟩
  · rw [if_neg c2] at H
    have c2b0 : (a0 == 1) = false := beq_eq_false_iff_ne.mpr c2
    have c2b1 : (a0 != 1) = true := bne_iff_ne.mpr c2
    by_cases c5 : a0 = 2
    · rw [if_pos c5] at H
      have c5b0 : (a0 == 2) = true := beq_iff_eq.mpr c5
      have c5b1 : (a0 != 2) = false := bne_eq_false_iff_eq.mpr c5
      clear c5
      obtain ⟨y139, hy139⟩ : ∃ y_ : List (S57), y_ = (([(⟨25, 7, 5⟩ : S57), (⟨7, 5, 0⟩ : S57)] : List (S57))) := ⟨_, rfl⟩
      replace H : (some (y139, 12)) = some (r1, r2) := by first | (rw [hy139]; with_reducible exact H) | (have H2_ := (Option.bind_some _ _).symm.trans H; rw [hy139]; with_reducible exact H2_) | (have H2_ := (Option.bind_some _ _).symm.trans H; with_reducible exact H2_) | with_reducible exact H | (rw [hy139]; exact H) | exact H
      have Ny139 := Aside0.mk hy139
      clear hy139
      simp only [Option.some.injEq, Prod.mk.injEq] at H
      obtain ⟨rfl, rfl⟩ := H
      go_enter Try.func21, Try.ntmps21
      go_wp2_with (first | ((with_reducible refine gate_dst (N := 13) rfl ?_); refine Kd.R_lit k57 _ 57 ?hg (N := 13) ?hd (xs := ([(⟨25, 7, 5⟩ : S57), (⟨7, 5, 0⟩ : S57)] : List (S57))) (inner := [.int .i64 25, .int .i64 7, .int .i64 5, .int .i64 7, .int .i64 5, .int .i64 0]) (ok := fun _ => True) (okp := fun _ => True) ?hr ?hp (fun _ hk => hk) trivial (Below.refl _ _) (Nat.le_refl _) (by simp) ?_; (case hd => rfl); (case hg => rfl); (case hr => first | (go_simp; done) | (go_simp; rfl)); (case hp => exact (Reps.c3 (show Kd.M k57 _ _ _ (⟨25, 7, 5⟩ : S57) [.int .i64 25, .int .i64 7, .int .i64 5] from (k57_mkM _ _ _ (⟨25, 7, 5⟩ : S57) )) (Reps.c3 (show Kd.M k57 _ _ _ (⟨7, 5, 0⟩ : S57) [.int .i64 7, .int .i64 5, .int .i64 0] from (k57_mkM _ _ _ (⟨7, 5, 0⟩ : S57) )) (Reps.none _ _)))); intro v140 w6 ho7 hb hg_ hnew_; clear hg_ hnew_; (first | rw [← Ny139.out] at ho7 | (simp only [Int.reduceToNat] at ho7; rw [← Ny139.out] at ho7)); have n0_ := Aside0.mk (Kd.R_lower ho7 (below_size (by repeat (first | (with_reducible first | exact HB.out | apply below_alloc | apply pw_below_drewN | apply below_drew1) | exact HB.out)))); have n1_ := Aside0.mk (below_step (by repeat (first | (with_reducible first | exact HB.out | apply below_alloc | apply pw_below_drewN | apply below_drew1) | exact HB.out)) hb); clear HB; have HO141 := n0_; have HB := n1_; clear n0_ n1_; clear hb ho7))
      go_ret2
      exact ⟨_, by first | rfl | (simp [errW_none, errW_some] <;> rfl) | (simp [*, errW_none, errW_some] <;> rfl), by (with_reducible repeat (first | apply Kd.R_alloc | apply Kd.R_drewN | apply Kd.R_drew)); exact HO141.out, by repeat (first | (with_reducible first | exact HB.out | apply below_alloc | apply pw_below_drewN | apply below_drew1) | exact HB.out)⟩
    · rw [if_neg c5] at H
      have c5b0 : (a0 == 2) = false := beq_eq_false_iff_ne.mpr c5
      have c5b1 : (a0 != 2) = true := bne_iff_ne.mpr c5
      by_cases c8 : a0 = 3
      · rw [if_pos c8] at H
        have c8b0 : (a0 == 3) = true := beq_iff_eq.mpr c8
        have c8b1 : (a0 != 3) = false := bne_eq_false_iff_eq.mpr c8
        clear c8
        obtain ⟨y142, hy142⟩ : ∃ y_ : List (S57), y_ = (([(⟨31, 1, 12⟩ : S57), (⟨7, 1, 11⟩ : S57), (⟨25, 6, 5⟩ : S57), (⟨8, 4, 1⟩ : S57)] : List (S57))) := ⟨_, rfl⟩
        replace H : (some (y142, 13)) = some (r1, r2) := by first | (rw [hy142]; with_reducible exact H) | (have H2_ := (Option.bind_some _ _).symm.trans H; rw [hy142]; with_reducible exact H2_) | (have H2_ := (Option.bind_some _ _).symm.trans H; with_reducible exact H2_) | with_reducible exact H | (rw [hy142]; exact H) | exact H
        have Ny142 := Aside0.mk hy142
        clear hy142
        simp only [Option.some.injEq, Prod.mk.injEq] at H
        obtain ⟨rfl, rfl⟩ := H
        go_enter Try.func21, Try.ntmps21
        go_wp2_with (first | ((with_reducible refine gate_dst (N := 20) rfl ?_); refine Kd.R_lit k57 _ 57 ?hg (N := 20) ?hd (xs := ([(⟨31, 1, 12⟩ : S57), (⟨7, 1, 11⟩ : S57), (⟨25, 6, 5⟩ : S57), (⟨8, 4, 1⟩ : S57)] : List (S57))) (inner := [.int .i64 31, .int .i64 1, .int .i64 12, .int .i64 7, .int .i64 1, .int .i64 11, .int .i64 25, .int .i64 6, .int .i64 5, .int .i64 8, .int .i64 4, .int .i64 1]) (ok := fun _ => True) (okp := fun _ => True) ?hr ?hp (fun _ hk => hk) trivial (Below.refl _ _) (Nat.le_refl _) (by simp) ?_; (case hd => rfl); (case hg => rfl); (case hr => first | (go_simp; done) | (go_simp; rfl)); (case hp => exact (Reps.c3 (show Kd.M k57 _ _ _ (⟨31, 1, 12⟩ : S57) [.int .i64 31, .int .i64 1, .int .i64 12] from (k57_mkM _ _ _ (⟨31, 1, 12⟩ : S57) )) (Reps.c3 (show Kd.M k57 _ _ _ (⟨7, 1, 11⟩ : S57) [.int .i64 7, .int .i64 1, .int .i64 11] from (k57_mkM _ _ _ (⟨7, 1, 11⟩ : S57) )) (Reps.c3 (show Kd.M k57 _ _ _ (⟨25, 6, 5⟩ : S57) [.int .i64 25, .int .i64 6, .int .i64 5] from (k57_mkM _ _ _ (⟨25, 6, 5⟩ : S57) )) (Reps.c3 (show Kd.M k57 _ _ _ (⟨8, 4, 1⟩ : S57) [.int .i64 8, .int .i64 4, .int .i64 1] from (k57_mkM _ _ _ (⟨8, 4, 1⟩ : S57) )) (Reps.none _ _)))))); intro v143 w9 ho10 hb hg_ hnew_; clear hg_ hnew_; (first | rw [← Ny142.out] at ho10 | (simp only [Int.reduceToNat] at ho10; rw [← Ny142.out] at ho10)); have n0_ := Aside0.mk (Kd.R_lower ho10 (below_size (by repeat (first | (with_reducible first | exact HB.out | apply below_alloc | apply pw_below_drewN | apply below_drew1) | exact HB.out)))); have n1_ := Aside0.mk (below_step (by repeat (first | (with_reducible first | exact HB.out | apply below_alloc | apply pw_below_drewN | apply below_drew1) | exact HB.out)) hb); clear HB; have HO144 := n0_; have HB := n1_; clear n0_ n1_; clear hb ho10))
        go_ret2
        exact ⟨_, by first | rfl | (simp [errW_none, errW_some] <;> rfl) | (simp [*, errW_none, errW_some] <;> rfl), by (with_reducible repeat (first | apply Kd.R_alloc | apply Kd.R_drewN | apply Kd.R_drew)); exact HO144.out, by repeat (first | (with_reducible first | exact HB.out | apply below_alloc | apply pw_below_drewN | apply below_drew1) | exact HB.out)⟩
      · rw [if_neg c8] at H
        have c8b0 : (a0 == 3) = false := beq_eq_false_iff_ne.mpr c8
        have c8b1 : (a0 != 3) = true := bne_iff_ne.mpr c8
        by_cases c11 : a0 = 4
        · rw [if_pos c11] at H
          have c11b0 : (a0 == 4) = true := beq_iff_eq.mpr c11
          have c11b1 : (a0 != 4) = false := bne_eq_false_iff_eq.mpr c11
          clear c11
          obtain ⟨y145, hy145⟩ : ∃ y_ : List (S57), y_ = (([(⟨12, 20, 12⟩ : S57)] : List (S57))) := ⟨_, rfl⟩
          replace H : (some (y145, 32)) = some (r1, r2) := by first | (rw [hy145]; with_reducible exact H) | (have H2_ := (Option.bind_some _ _).symm.trans H; rw [hy145]; with_reducible exact H2_) | (have H2_ := (Option.bind_some _ _).symm.trans H; with_reducible exact H2_) | with_reducible exact H | (rw [hy145]; exact H) | exact H
          have Ny145 := Aside0.mk hy145
          clear hy145
          simp only [Option.some.injEq, Prod.mk.injEq] at H
          obtain ⟨rfl, rfl⟩ := H
          go_enter Try.func21, Try.ntmps21
          go_wp2_with (first | ((with_reducible refine gate_dst (N := 24) rfl ?_); refine Kd.R_lit k57 _ 57 ?hg (N := 24) ?hd (xs := ([(⟨12, 20, 12⟩ : S57)] : List (S57))) (inner := [.int .i64 12, .int .i64 20, .int .i64 12]) (ok := fun _ => True) (okp := fun _ => True) ?hr ?hp (fun _ hk => hk) trivial (Below.refl _ _) (Nat.le_refl _) (by simp) ?_; (case hd => rfl); (case hg => rfl); (case hr => first | (go_simp; done) | (go_simp; rfl)); (case hp => exact (Reps.c3 (show Kd.M k57 _ _ _ (⟨12, 20, 12⟩ : S57) [.int .i64 12, .int .i64 20, .int .i64 12] from (k57_mkM _ _ _ (⟨12, 20, 12⟩ : S57) )) (Reps.none _ _))); intro v146 w12 ho13 hb hg_ hnew_; clear hg_ hnew_; (first | rw [← Ny145.out] at ho13 | (simp only [Int.reduceToNat] at ho13; rw [← Ny145.out] at ho13)); have n0_ := Aside0.mk (Kd.R_lower ho13 (below_size (by repeat (first | (with_reducible first | exact HB.out | apply below_alloc | apply pw_below_drewN | apply below_drew1) | exact HB.out)))); have n1_ := Aside0.mk (below_step (by repeat (first | (with_reducible first | exact HB.out | apply below_alloc | apply pw_below_drewN | apply below_drew1) | exact HB.out)) hb); clear HB; have HO147 := n0_; have HB := n1_; clear n0_ n1_; clear hb ho13))
          go_ret2
          exact ⟨_, by first | rfl | (simp [errW_none, errW_some] <;> rfl) | (simp [*, errW_none, errW_some] <;> rfl), by (with_reducible repeat (first | apply Kd.R_alloc | apply Kd.R_drewN | apply Kd.R_drew)); exact HO147.out, by repeat (first | (with_reducible first | exact HB.out | apply below_alloc | apply pw_below_drewN | apply below_drew1) | exact HB.out)⟩
        · rw [if_neg c11] at H
          have c11b0 : (a0 == 4) = false := beq_eq_false_iff_ne.mpr c11
          have c11b1 : (a0 != 4) = true := bne_iff_ne.mpr c11
          by_cases c14 : a0 = 5
          · rw [if_pos c14] at H
            have c14b0 : (a0 == 5) = true := beq_iff_eq.mpr c14
            have c14b1 : (a0 != 5) = false := bne_eq_false_iff_eq.mpr c14
            clear c14
            obtain ⟨y148, hy148⟩ : ∃ y_ : List (S57), y_ = (([(⟨31, 1, 20⟩ : S57), (⟨12, 8, 12⟩ : S57), (⟨20, 1, 11⟩ : S57), (⟨21, 10, 1⟩ : S57)] : List (S57))) := ⟨_, rfl⟩
            replace H : (some (y148, 21)) = some (r1, r2) := by first | (rw [hy148]; with_reducible exact H) | (have H2_ := (Option.bind_some _ _).symm.trans H; rw [hy148]; with_reducible exact H2_) | (have H2_ := (Option.bind_some _ _).symm.trans H; with_reducible exact H2_) | with_reducible exact H | (rw [hy148]; exact H) | exact H
            have Ny148 := Aside0.mk hy148
            clear hy148
            simp only [Option.some.injEq, Prod.mk.injEq] at H
            obtain ⟨rfl, rfl⟩ := H
            go_enter Try.func21, Try.ntmps21
            go_wp2_with (first | ((with_reducible refine gate_dst (N := 31) rfl ?_); refine Kd.R_lit k57 _ 57 ?hg (N := 31) ?hd (xs := ([(⟨31, 1, 20⟩ : S57), (⟨12, 8, 12⟩ : S57), (⟨20, 1, 11⟩ : S57), (⟨21, 10, 1⟩ : S57)] : List (S57))) (inner := [.int .i64 31, .int .i64 1, .int .i64 20, .int .i64 12, .int .i64 8, .int .i64 12, .int .i64 20, .int .i64 1, .int .i64 11, .int .i64 21, .int .i64 10, .int .i64 1]) (ok := fun _ => True) (okp := fun _ => True) ?hr ?hp (fun _ hk => hk) trivial (Below.refl _ _) (Nat.le_refl _) (by simp) ?_; (case hd => rfl); (case hg => rfl); (case hr => first | (go_simp; done) | (go_simp; rfl)); (case hp => exact (Reps.c3 (show Kd.M k57 _ _ _ (⟨31, 1, 20⟩ : S57) [.int .i64 31, .int .i64 1, .int .i64 20] from (k57_mkM _ _ _ (⟨31, 1, 20⟩ : S57) )) (Reps.c3 (show Kd.M k57 _ _ _ (⟨12, 8, 12⟩ : S57) [.int .i64 12, .int .i64 8, .int .i64 12] from (k57_mkM _ _ _ (⟨12, 8, 12⟩ : S57) )) (Reps.c3 (show Kd.M k57 _ _ _ (⟨20, 1, 11⟩ : S57) [.int .i64 20, .int .i64 1, .int .i64 11] from (k57_mkM _ _ _ (⟨20, 1, 11⟩ : S57) )) (Reps.c3 (show Kd.M k57 _ _ _ (⟨21, 10, 1⟩ : S57) [.int .i64 21, .int .i64 10, .int .i64 1] from (k57_mkM _ _ _ (⟨21, 10, 1⟩ : S57) )) (Reps.none _ _)))))); intro v149 w15 ho16 hb hg_ hnew_; clear hg_ hnew_; (first | rw [← Ny148.out] at ho16 | (simp only [Int.reduceToNat] at ho16; rw [← Ny148.out] at ho16)); have n0_ := Aside0.mk (Kd.R_lower ho16 (below_size (by repeat (first | (with_reducible first | exact HB.out | apply below_alloc | apply pw_below_drewN | apply below_drew1) | exact HB.out)))); have n1_ := Aside0.mk (below_step (by repeat (first | (with_reducible first | exact HB.out | apply below_alloc | apply pw_below_drewN | apply below_drew1) | exact HB.out)) hb); clear HB; have HO150 := n0_; have HB := n1_; clear n0_ n1_; clear hb ho16))
            go_ret2
            exact ⟨_, by first | rfl | (simp [errW_none, errW_some] <;> rfl) | (simp [*, errW_none, errW_some] <;> rfl), by (with_reducible repeat (first | apply Kd.R_alloc | apply Kd.R_drewN | apply Kd.R_drew)); exact HO150.out, by repeat (first | (with_reducible first | exact HB.out | apply below_alloc | apply pw_below_drewN | apply below_drew1) | exact HB.out)⟩
          · rw [if_neg c14] at H
            have c14b0 : (a0 == 5) = false := beq_eq_false_iff_ne.mpr c14
            have c14b1 : (a0 != 5) = true := bne_iff_ne.mpr c14
            simp only [Option.some.injEq, Prod.mk.injEq] at H
            obtain ⟨rfl, rfl⟩ := H
            go_enter Try.func21, Try.ntmps21
            go_wp2
            go_ret2
            exact ⟨_, by first | rfl | (simp [errW_none, errW_some] <;> rfl) | (simp [*, errW_none, errW_some] <;> rfl), by first | exact Kd.R_nil _ _ _ _ _ | exact Kd.N_nil _ _ _ _ _ | exact Kd.V_nil _ _ _ _ _ | exact Kd.Q_nil _ _ _ _ _ | exact Kd.S_nil _ _ _ _ _, by repeat (first | (with_reducible first | exact HB.out | apply below_alloc | apply pw_below_drewN | apply below_drew1) | exact HB.out)⟩
end Go.Proofs.Yteglbikbnlebpaa.PPs
