/- RsPintleref02Bits, RsPintleref02Get, RsPintleref02Put, RsPintleref03Reg: texts put together. -/
import Derived.Test.YtihecimbhhlhaaaRsG1
import Derived.Test.YtihecimbhhlhaaaRsMc
section
namespace Go.Proofs.Ytihecimbhhlhaaa.PRs
open Go.RowKit Go.Proofs.YtihecimbhhlhaaaW.PrintWords Go.Proofs.YtihecimbhhlhaaaW.PrintLast Go.Proofs.YtihecimbhhlhaaaW.PrintMore
set_option linter.unusedVariables false
set_option linter.unusedSimpArgs false
/-! ### d2B: function 42 -/
def d2B.f (a0 : Int) : Option (List Int) := if a0 = 1 then (some (([31, 30, 29, 28, 27, 26, 25, 24, 23, 22, 21, 20] : List Int))) else (if a0 = 2 then (some (([31, 30, 29, 28, 27, 26, 25, 11, 10, 9, 8, 7] : List Int))) else (if a0 = 3 then (some (([31, 7, 30, 29, 28, 27, 26, 25, 11, 10, 9, 8, (-1)] : List Int))) else (if a0 = 4 then (some (([31, 30, 29, 28, 27, 26, 25, 24, 23, 22, 21, 20, 19, 18, 17, 16, 15, 14, 13, 12, (-1), (-1), (-1), (-1), (-1), (-1), (-1), (-1), (-1), (-1), (-1), (-1)] : List Int))) else (if a0 = 5 then (some (([31, 19, 18, 17, 16, 15, 14, 13, 12, 20, 30, 29, 28, 27, 26, 25, 24, 23, 22, 21, (-1)] : List Int))) else (some (([] : List Int)))))))
set_option maxHeartbeats 8000000 in
set_option maxRecDepth 100000 in
theorem d2B.calls (a0 : Int) (r : List Int) (w : World) (h : d2B.f a0 = some r) :
 Calls Try.prog 42 #[.int .i64 a0] w fun e w' => ∃ v0_ : Value, e = .returned (v0_) ∧ Kd.R (Kd.int .i64) 3 w' w.heap.size (fun _ => True) v0_ r ∧ Below w.heap.size w w' := by
 have HB := Aside0.mk (Below.refl w.heap.size w)
 have H : (if a0 = 1 then (some (([31, 30, 29, 28, 27, 26, 25, 24, 23, 22, 21, 20] : List Int))) else (if a0 = 2 then (some (([31, 30, 29, 28, 27, 26, 25, 11, 10, 9, 8, 7] : List Int))) else (if a0 = 3 then (some (([31, 7, 30, 29, 28, 27, 26, 25, 11, 10, 9, 8, (-1)] : List Int))) else (if a0 = 4 then (some (([31, 30, 29, 28, 27, 26, 25, 24, 23, 22, 21, 20, 19, 18, 17, 16, 15, 14, 13, 12, (-1), (-1), (-1), (-1), (-1), (-1), (-1), (-1), (-1), (-1), (-1), (-1)] : List Int))) else (if a0 = 5 then (some (([31, 19, 18, 17, 16, 15, 14, 13, 12, 20, 30, 29, 28, 27, 26, 25, 24, 23, 22, 21, (-1)] : List Int))) else (some (([] : List Int)))))))) = some r := h
 clear h
 by_cases c2 : a0 = 1
 · rw [if_pos c2] at H
   have c2b0 : (a0 == 1) = true := beq_iff_eq.mpr c2
   have c2b1 : (a0 != 1) = false := bne_eq_false_iff_eq.mpr c2
   clear c2
   obtain ⟨y309, hy_⟩ : ∃ y_ : List Int, y_ = (([31, 30, 29, 28, 27, 26, 25, 24, 23, 22, 21, 20] : List Int)) := ⟨_, rfl⟩
   replace H : (some y309) = some r := q_2
   have Ny309 := Aside0.mk hy_
   clear hy_
   obtain rfl := Option.some.inj H
   go_enter Try.func42, Try.ntmps42
   go_wp2_with (first | ((with_reducible refine gate_dst (N := 6) rfl ?_); refine Kd.R_lit (Kd.int .i64) _ 3 ?hg (N := 6) ?hd (xs := ([31, 30, 29, 28, 27, 26, 25, 24, 23, 22, 21, 20] : List Int)) (inner := [.int .i64 31, .int .i64 30, .int .i64 29, .int .i64 28, .int .i64 27, .int .i64 26, .int .i64 25, .int .i64 24, .int .i64 23, .int .i64 22, .int .i64 21, .int .i64 20]) (ok := fun _ => True) (okp := fun _ => True) ?hr ?hp (fun _ hk => hk) trivial (Below.refl _ _) (Nat.le_refl _) (by simp) ?_; (case hd => rfl); (case hg => rfl); (case hr => exact m_14); (case hp => exact m_39); intro v310 w3 ho4 hb hg_ hnew_; clear hg_ hnew_; (first | rw [← Ny309.out] at ho4 | (simp only [Int.reduceToNat] at ho4; rw [← Ny309.out] at ho4)); have n0_ := Aside0.mk (Kd.R_lower ho4 (below_size (m_0))); have n1_ := Aside0.mk (below_step (m_0) hb); clear HB; have HO311 := n0_; have HB := n1_; clear n0_ n1_; clear hb ho4))
   go_ret
   exact ⟨_, m_3, by (with_reducible repeat (first | apply Kd.R_alloc | apply Kd.R_drewN | apply Kd.R_drew)); exact HO311.out, m_0⟩
 · rw [if_neg c2] at H
   have c2b0 : (a0 == 1) = false := beq_eq_false_iff_ne.mpr c2
   have c2b1 : (a0 != 1) = true := bne_iff_ne.mpr c2
   by_cases c5 : a0 = 2
   · rw [if_pos c5] at H
     have c5b0 : (a0 == 2) = true := beq_iff_eq.mpr c5
     have c5b1 : (a0 != 2) = false := bne_eq_false_iff_eq.mpr c5
     clear c5
     obtain ⟨y312, hy_⟩ : ∃ y_ : List Int, y_ = (([31, 30, 29, 28, 27, 26, 25, 11, 10, 9, 8, 7] : List Int)) := ⟨_, rfl⟩
     replace H : (some y312) = some r := q_2
     have Ny312 := Aside0.mk hy_
     clear hy_
     obtain rfl := Option.some.inj H
     go_enter Try.func42, Try.ntmps42
     go_wp2_with (first | ((with_reducible refine gate_dst (N := 9) rfl ?_); refine Kd.R_lit (Kd.int .i64) _ 3 ?hg (N := 9) ?hd (xs := ([31, 30, 29, 28, 27, 26, 25, 11, 10, 9, 8, 7] : List Int)) (inner := [.int .i64 31, .int .i64 30, .int .i64 29, .int .i64 28, .int .i64 27, .int .i64 26, .int .i64 25, .int .i64 11, .int .i64 10, .int .i64 9, .int .i64 8, .int .i64 7]) (ok := fun _ => True) (okp := fun _ => True) ?hr ?hp (fun _ hk => hk) trivial (Below.refl _ _) (Nat.le_refl _) (by simp) ?_; (case hd => rfl); (case hg => rfl); (case hr => exact m_14); (case hp => exact m_39); intro v313 w6 ho7 hb hg_ hnew_; clear hg_ hnew_; (first | rw [← Ny312.out] at ho7 | (simp only [Int.reduceToNat] at ho7; rw [← Ny312.out] at ho7)); have n0_ := Aside0.mk (Kd.R_lower ho7 (below_size (m_0))); have n1_ := Aside0.mk (below_step (m_0) hb); clear HB; have HO314 := n0_; have HB := n1_; clear n0_ n1_; clear hb ho7))
     go_ret
     exact ⟨_, m_3, by (with_reducible repeat (first | apply Kd.R_alloc | apply Kd.R_drewN | apply Kd.R_drew)); exact HO314.out, m_0⟩
   · rw [if_neg c5] at H
     have c5b0 : (a0 == 2) = false := beq_eq_false_iff_ne.mpr c5
     have c5b1 : (a0 != 2) = true := bne_iff_ne.mpr c5
     by_cases c8 : a0 = 3
     · rw [if_pos c8] at H
       have c8b0 : (a0 == 3) = true := beq_iff_eq.mpr c8
       have c8b1 : (a0 != 3) = false := bne_eq_false_iff_eq.mpr c8
       clear c8
       obtain ⟨y315, hy_⟩ : ∃ y_ : List Int, y_ = (([31, 7, 30, 29, 28, 27, 26, 25, 11, 10, 9, 8, (-1)] : List Int)) := ⟨_, rfl⟩
       replace H : (some y315) = some r := q_2
       have Ny315 := Aside0.mk hy_
       clear hy_
       obtain rfl := Option.some.inj H
       go_enter Try.func42, Try.ntmps42
       go_wp2_with (first | ((with_reducible refine gate_dst (N := 12) rfl ?_); refine Kd.R_lit (Kd.int .i64) _ 3 ?hg (N := 12) ?hd (xs := ([31, 7, 30, 29, 28, 27, 26, 25, 11, 10, 9, 8, (-1)] : List Int)) (inner := [.int .i64 31, .int .i64 7, .int .i64 30, .int .i64 29, .int .i64 28, .int .i64 27, .int .i64 26, .int .i64 25, .int .i64 11, .int .i64 10, .int .i64 9, .int .i64 8, .int .i64 (-1)]) (ok := fun _ => True) (okp := fun _ => True) ?hr ?hp (fun _ hk => hk) trivial (Below.refl _ _) (Nat.le_refl _) (by simp) ?_; (case hd => rfl); (case hg => rfl); (case hr => exact m_14); (case hp => exact m_39); intro v316 w9 ho10 hb hg_ hnew_; clear hg_ hnew_; (first | rw [← Ny315.out] at ho10 | (simp only [Int.reduceToNat] at ho10; rw [← Ny315.out] at ho10)); have n0_ := Aside0.mk (Kd.R_lower ho10 (below_size (m_0))); have n1_ := Aside0.mk (below_step (m_0) hb); clear HB; have HO317 := n0_; have HB := n1_; clear n0_ n1_; clear hb ho10))
       go_ret
       exact ⟨_, m_3, by (with_reducible repeat (first | apply Kd.R_alloc | apply Kd.R_drewN | apply Kd.R_drew)); exact HO317.out, m_0⟩
     · rw [if_neg c8] at H
       have c8b0 : (a0 == 3) = false := beq_eq_false_iff_ne.mpr c8
       have c8b1 : (a0 != 3) = true := bne_iff_ne.mpr c8
       by_cases c11 : a0 = 4
       · rw [if_pos c11] at H
         have c11b0 : (a0 == 4) = true := beq_iff_eq.mpr c11
         have c11b1 : (a0 != 4) = false := bne_eq_false_iff_eq.mpr c11
         clear c11
         obtain ⟨y318, hy_⟩ : ∃ y_ : List Int, y_ = (([31, 30, 29, 28, 27, 26, 25, 24, 23, 22, 21, 20, 19, 18, 17, 16, 15, 14, 13, 12, (-1), (-1), (-1), (-1), (-1), (-1), (-1), (-1), (-1), (-1), (-1), (-1)] : List Int)) := ⟨_, rfl⟩
         replace H : (some y318) = some r := q_2
         have Ny318 := Aside0.mk hy_
         clear hy_
         obtain rfl := Option.some.inj H
         go_enter Try.func42, Try.ntmps42
         go_wp2_with (first | ((with_reducible refine gate_dst (N := 15) rfl ?_); refine Kd.R_lit (Kd.int .i64) _ 3 ?hg (N := 15) ?hd (xs := ([31, 30, 29, 28, 27, 26, 25, 24, 23, 22, 21, 20, 19, 18, 17, 16, 15, 14, 13, 12, (-1), (-1), (-1), (-1), (-1), (-1), (-1), (-1), (-1), (-1), (-1), (-1)] : List Int)) (inner := [.int .i64 31, .int .i64 30, .int .i64 29, .int .i64 28, .int .i64 27, .int .i64 26, .int .i64 25, .int .i64 24, .int .i64 23, .int .i64 22, .int .i64 21, .int .i64 20, .int .i64 19, .int .i64 18, .int .i64 17, .int .i64 16, .int .i64 15, .int .i64 14, .int .i64 13, .int .i64 12, .int .i64 (-1), .int .i64 (-1), .int .i64 (-1), .int .i64 (-1), .int .i64 (-1), .int .i64 (-1), .int .i64 (-1), .int .i64 (-1), .int .i64 (-1), .int .i64 (-1), .int .i64 (-1), .int .i64 (-1)]) (ok := fun _ => True) (okp := fun _ => True) ?hr ?hp (fun _ hk => hk) trivial (Below.refl _ _) (Nat.le_refl _) (by simp) ?_; (case hd => rfl); (case hg => rfl); (case hr => exact m_14); (case hp => exact m_39); intro v319 w12 ho13 hb hg_ hnew_; clear hg_ hnew_; (first | rw [← Ny318.out] at ho13 | (simp only [Int.reduceToNat] at ho13; rw [← Ny318.out] at ho13)); have n0_ := Aside0.mk (Kd.R_lower ho13 (below_size (m_0))); have n1_ := Aside0.mk (below_step (m_0) hb); clear HB; have HO320 := n0_; have HB := n1_; clear n0_ n1_; clear hb ho13))
         go_ret
         exact ⟨_, m_3, by (with_reducible repeat (first | apply Kd.R_alloc | apply Kd.R_drewN | apply Kd.R_drew)); exact HO320.out, m_0⟩
       · rw [if_neg c11] at H
         have c11b0 : (a0 == 4) = false := beq_eq_false_iff_ne.mpr c11
         have c11b1 : (a0 != 4) = true := bne_iff_ne.mpr c11
         by_cases c14 : a0 = 5
         · rw [if_pos c14] at H
           have c14b0 : (a0 == 5) = true := beq_iff_eq.mpr c14
           have c14b1 : (a0 != 5) = false := bne_eq_false_iff_eq.mpr c14
           clear c14
           obtain ⟨y321, hy_⟩ : ∃ y_ : List Int, y_ = (([31, 19, 18, 17, 16, 15, 14, 13, 12, 20, 30, 29, 28, 27, 26, 25, 24, 23, 22, 21, (-1)] : List Int)) := ⟨_, rfl⟩
           replace H : (some y321) = some r := q_2
           have Ny321 := Aside0.mk hy_
           clear hy_
           obtain rfl := Option.some.inj H
           go_enter Try.func42, Try.ntmps42
           go_wp2_with (first | ((with_reducible refine gate_dst (N := 18) rfl ?_); refine Kd.R_lit (Kd.int .i64) _ 3 ?hg (N := 18) ?hd (xs := ([31, 19, 18, 17, 16, 15, 14, 13, 12, 20, 30, 29, 28, 27, 26, 25, 24, 23, 22, 21, (-1)] : List Int)) (inner := [.int .i64 31, .int .i64 19, .int .i64 18, .int .i64 17, .int .i64 16, .int .i64 15, .int .i64 14, .int .i64 13, .int .i64 12, .int .i64 20, .int .i64 30, .int .i64 29, .int .i64 28, .int .i64 27, .int .i64 26, .int .i64 25, .int .i64 24, .int .i64 23, .int .i64 22, .int .i64 21, .int .i64 (-1)]) (ok := fun _ => True) (okp := fun _ => True) ?hr ?hp (fun _ hk => hk) trivial (Below.refl _ _) (Nat.le_refl _) (by simp) ?_; (case hd => rfl); (case hg => rfl); (case hr => exact m_14); (case hp => exact m_39); intro v322 w15 ho16 hb hg_ hnew_; clear hg_ hnew_; (first | rw [← Ny321.out] at ho16 | (simp only [Int.reduceToNat] at ho16; rw [← Ny321.out] at ho16)); have n0_ := Aside0.mk (Kd.R_lower ho16 (below_size (m_0))); have n1_ := Aside0.mk (below_step (m_0) hb); clear HB; have HO323 := n0_; have HB := n1_; clear n0_ n1_; clear hb ho16))
           go_ret
           exact ⟨_, m_3, by (with_reducible repeat (first | apply Kd.R_alloc | apply Kd.R_drewN | apply Kd.R_drew)); exact HO323.out, m_0⟩
         · rw [if_neg c14] at H
           have c14b0 : (a0 == 5) = false := beq_eq_false_iff_ne.mpr c14
           have c14b1 : (a0 != 5) = true := bne_iff_ne.mpr c14
           obtain ⟨y324, hy_⟩ : ∃ y_ : List Int, y_ = (([] : List Int)) := ⟨_, rfl⟩
           replace H : (some y324) = some r := q_2
           have Ny324 := Aside0.mk hy_
           clear hy_
           obtain rfl := Option.some.inj H
           go_enter Try.func42, Try.ntmps42
           go_wp2_with (first | ((with_reducible refine gate_dst (N := 19) rfl ?_); refine Kd.R_lit (Kd.int .i64) _ 3 ?hg (N := 19) ?hd (xs := ([] : List Int)) (inner := []) (ok := fun _ => True) (okp := fun _ => True) ?hr ?hp (fun _ hk => hk) trivial (Below.refl _ _) (Nat.le_refl _) (by simp) ?_; (case hd => rfl); (case hg => rfl); (case hr => exact m_14); (case hp => exact (Reps.none _ _)); intro v325 w17 ho18 hb hg_ hnew_; clear hg_ hnew_; (first | rw [← Ny324.out] at ho18 | (simp only [Int.reduceToNat] at ho18; rw [← Ny324.out] at ho18)); have n0_ := Aside0.mk (Kd.R_lower ho18 (below_size (m_0))); have n1_ := Aside0.mk (below_step (m_0) hb); clear HB; have HO326 := n0_; have HB := n1_; clear n0_ n1_; clear hb ho18))
           go_ret
           exact ⟨_, m_3, by (with_reducible repeat (first | apply Kd.R_alloc | apply Kd.R_drewN | apply Kd.R_drew)); exact HO326.out, m_0⟩
end Go.Proofs.Ytihecimbhhlhaaa.PRs
end
section
namespace Go.Proofs.Ytihecimbhhlhaaa.PRs
open Go.RowKit Go.Proofs.YtihecimbhhlhaaaW.PrintWords Go.Proofs.YtihecimbhhlhaaaW.PrintLast Go.Proofs.YtihecimbhhlhaaaW.PrintMore
set_option linter.unusedVariables false
set_option linter.unusedSimpArgs false
/-! ### d2G: function 30 -/
def d2G.l0 : Nat → Int → List Int → Int → Int → Option (Int)
 | 0, _, _, _, _ => none
 | k + 1, x1, x5, x6, x7 => if x7 < (x5.length : Int) then (if 0 ≤ x7 then (if (rd x5 x7) ≥ 0 then (if 0 ≤ (IntKind.u64.wrap (rd x5 x7)) then (if x7 = 0 then (d2G.l0 k x1 x5 (wrap64 ((wrap64 (2 * x6)) + (wrap64 (-(wrap64 (Int.tmod (shr .u32 x1 (IntKind.u64.wrap (rd x5 x7))) 2)))))) (wrap64 (x7 + 1))) else (d2G.l0 k x1 x5 (wrap64 ((wrap64 (2 * x6)) + (wrap64 (Int.tmod (shr .u32 x1 (IntKind.u64.wrap (rd x5 x7))) 2)))) (wrap64 (x7 + 1)))) else (none)) else (if x7 = 0 then (d2G.l0 k x1 x5 (wrap64 ((wrap64 (2 * x6)) + (-0))) (wrap64 (x7 + 1))) else (d2G.l0 k x1 x5 (wrap64 ((wrap64 (2 * x6)) + 0)) (wrap64 (x7 + 1))))) else (none)) else (some (wrap32 (x6)))
def d2G.f (k : Nat) (a0 : Int) (a1 : Int) : Option (Int) := (d2B.f a0).bind fun t327 => (d2G.l0 k a1 t327 0 0)
theorem d2G.mono_l : ∀ k, (∀ y0 y1 y2 y3, LeO (d2G.l0 k y0 y1 y2 y3) (d2G.l0 (k + 1) y0 y1 y2 y3))
 | 0 => fun _ _ _ _ r h => by simp [d2G.l0] at h
 | k + 1 => by
  have ih0 := d2G.mono_l k
  · intro y0 y1 y2 y3
    unfold d2G.l0
    repeat' first
    | (with_reducible exact ih0 _ _ _ _)
    | (with_reducible exact LeO.refl _)
    | (with_reducible exact LeO.none _)
    | (with_reducible refine LeO.ite ?_ ?_)
    | (with_reducible refine LeO.bind ?_ (fun _ => ?_))
    | exact ih0 _ _ _ _
    | exact LeO.none _
    | refine LeO.ite ?_ ?_
    | refine LeO.bind ?_ (fun _ => ?_)
theorem d2G.mono : ∀ a0 a1 k, LeO (d2G.f k a0 a1) (d2G.f (k + 1) a0 a1) := by
 intro a0 a1 k
 have ih0 := d2G.mono_l k
 unfold d2G.f
 repeat' first
  | (with_reducible exact ih0 _ _ _ _)
  | (with_reducible exact LeO.refl _)
  | (with_reducible exact LeO.none _)
  | (with_reducible refine LeO.ite ?_ ?_)
  | (with_reducible refine LeO.bind ?_ (fun _ => ?_))
  | exact ih0 _ _ _ _
  | exact LeO.none _
  | refine LeO.ite ?_ ?_
  | refine LeO.bind ?_ (fun _ => ?_)
set_option maxHeartbeats 8000000 in
set_option maxRecDepth 100000 in
theorem d2G.calls (k : Nat) (a0 : Int) (a1 : Int) (r : Int) (w : World) (h : d2G.f k a0 a1 = some r) :
 Calls Try.prog 30 #[.int .i64 a0, .int .u32 a1] w fun e w' => e = .returned (.int .i32 r) ∧ Below w.heap.size w w' := by
 have HB := Aside0.mk (Below.refl w.heap.size w)
 have H : ((d2B.f a0).bind fun t327 => (d2G.l0 k a1 t327 0 0)) = some r := h
 clear h
 replace H := Option.bind_eq_some_iff.mp H
 obtain ⟨t327, A30, H⟩ := H
 replace H : (d2G.l0 k a1 t327 0 0) = some r := H
 have A3 := Aside0.mk A30
 clear A30
 have H' := Aside0.mk H
 clear H
 go_enter Try.func30, Try.ntmps30
 go_wp2_with (first | ((with_reducible refine gate_callee (f := 42) rfl ?_); refine goesL_ (some 10) rfl rfl Try.func42 (by kernel_rfl) rfl #[.int .i64 a0] rfl (m_8) ?_; (with_reducible refine (d2B.calls a0 t327 _ A3.out).mono ?_); rintro e w4 ⟨v328, rfl, ho0, hb⟩; refine ⟨_, rfl, ?_⟩; have n0_ := Aside0.mk (Kd.R_lower ho0 (below_size (m_0))); have n1_ := Aside0.mk (below_step (m_0) hb); clear HB; have HO329 := n0_; have HB := n1_; clear n0_ n1_; (try clear hb); (try clear hb2); (try clear hk); (try clear hi); (try clear ho0)))
 go_loopg [6, 7] k (fun kq v6 v7 w' => ∃ (x6_1 : Int) (x7_1 : Int), v6 = .int .i64 x6_1 ∧ v7 = .int .i64 x7_1 ∧ Aside0 (d2G.l0 kq a1 t327 x6_1 x7_1 = some r) ∧ Aside0 (kq ≤ k) ∧ Aside0 (Kd.R (Kd.int .i64) 3 w' w.heap.size (fun _ => True) v328 t327) ∧ Aside0 (Below w.heap.size w w'))
 case atStart => exact ⟨(0), (0), (m_5), (m_5), H', ⟨Nat.le_refl _⟩, ⟨by (with_reducible repeat (first | apply Kd.R_alloc | apply Kd.R_drewN | apply Kd.R_drew)); exact HO329.out⟩, ⟨m_0⟩⟩
 case round =>
  clear H'
  obtain ⟨x6_1, x7_1, rfl, rfl, HA, HK1, HO_5, HB⟩ := hrel
  cases gk with
  | zero => exact absurd HA.out (by simp [d2G.l0])
  | succ k1 =>
   have H := HA.out
   clear HA
   simp only [d2G.l0] at H
   by_cases c5 : x7_1 < (t327.length : Int)
   · rw [if_pos c5] at H
     have c5b0 : decide (x7_1 < (t327.length : Int)) = true := decide_eq_true c5
     clear c5
     by_cases c6 : 0 ≤ x7_1
     · rw [if_pos c6] at H
       have c6b0 : decide (0 ≤ x7_1) = true := decide_eq_true c6
       clear c6
       by_cases c7 : (rd t327 x7_1) ≥ 0
       · rw [if_pos c7] at H
         have c7b0 : decide (0 ≤ (rd t327 x7_1)) = true := decide_eq_true c7
         clear c7
         obtain ⟨ji8, hji8⟩ : ∃ j_ : Int, (IntKind.u64.wrap (rd t327 x7_1)) = j_ := ⟨_, rfl⟩
         replace H : (if 0 ≤ (ji8) then (if x7_1 = 0 then (d2G.l0 k1 a1 t327 (wrap64 ((wrap64 (2 * x6_1)) + (wrap64 (-(wrap64 (Int.tmod (shr .u32 a1 (ji8)) 2)))))) (wrap64 (x7_1 + 1))) else (d2G.l0 k1 a1 t327 (wrap64 ((wrap64 (2 * x6_1)) + (wrap64 (Int.tmod (shr .u32 a1 (ji8)) 2)))) (wrap64 (x7_1 + 1)))) else (none)) = some r := by first | (rw [hji8] at H; exact H) | (simp only [hji8] at H ⊢; exact H)
         by_cases c9 : 0 ≤ (ji8)
         · rw [if_pos c9] at H
           have c9b0 := eq_true c9
           have c9b1 : decide (0 ≤ (ji8)) = true := decide_eq_true c9
           clear c9
           obtain ⟨ji10, hji10⟩ : ∃ j_ : Int, (shr .u32 a1 (ji8)) = j_ := ⟨_, rfl⟩
           replace H : (if x7_1 = 0 then (d2G.l0 k1 a1 t327 (wrap64 ((wrap64 (2 * x6_1)) + (wrap64 (-(wrap64 (Int.tmod (ji10) 2)))))) (wrap64 (x7_1 + 1))) else (d2G.l0 k1 a1 t327 (wrap64 ((wrap64 (2 * x6_1)) + (wrap64 (Int.tmod (ji10) 2)))) (wrap64 (x7_1 + 1)))) = some r := by first | (rw [hji10] at H; exact H) | (simp only [hji10] at H ⊢; exact H)
           have hji10_ : (a1 / 2 ^ min (ji8).toNat 32) = ji10 := hji10
           have hji10z : (ji8) ≤ 32 → (a1 / 2 ^ (ji8).toNat) = ji10 := shr_small hji10
           by_cases c11 : x7_1 = 0
           · rw [if_pos c11] at H
             have c11b0 : (x7_1 == 0) = true := beq_iff_eq.mpr c11
             have c11b1 : (x7_1 != 0) = false := bne_eq_false_iff_eq.mpr c11
             clear c11
             have H' := Aside0.mk H
             clear H
             obtain ⟨Ao12, co12, eo12⟩ := Kd.R_slice HO_5.out
             subst eo12
             have p330 : 0 ≤ (x7_1 : Int) := of_decide_eq_true (m_1)
             have q330 : x7_1 < (t327.length : Int) := of_decide_eq_true (m_1)
             obtain ⟨ad330, e330, hx330_0⟩ := Kd.at_int (Kd.R_reads' HO_5.out).2.2 x7_1 p330 q330
             cases e330
             replace p330 := eq_true p330
             replace q330 := eq_true q330
             have p331 : 0 ≤ (x7_1 : Int) := of_decide_eq_true (m_1)
             have q331 : x7_1 < (t327.length : Int) := of_decide_eq_true (m_1)
             obtain ⟨ad331, e331, hx331_0⟩ := Kd.at_int (Kd.R_reads' HO_5.out).2.2 x7_1 p331 q331
             obtain rfl : ad330 = ad331 := (by injection e331)
             replace p331 := eq_true p331
             replace q331 := eq_true q331
             go_wp2
             go_roundg k1
             case measure => have := HK1.out; omega
             case rel => exact ⟨(wrap64 ((wrap64 (2 * x6_1)) + (wrap64 (-(wrap64 (Int.tmod (ji10) 2)))))), (wrap64 (x7_1 + 1)), (by first | rfl | (simp; done) | (simp only [← hji10] <;> (first | rfl | simp)) | (simp [*]; done)), (m_5), H', ⟨by have := HK1.out; omega⟩, ⟨m_33⟩, ⟨m_0⟩⟩
           · rw [if_neg c11] at H
             have c11b0 : (x7_1 == 0) = false := beq_eq_false_iff_ne.mpr c11
             have c11b1 : (x7_1 != 0) = true := bne_iff_ne.mpr c11
             have H' := Aside0.mk H
             clear H
             obtain ⟨Ao13, co13, eo13⟩ := Kd.R_slice HO_5.out
             subst eo13
             have p330 : 0 ≤ (x7_1 : Int) := of_decide_eq_true (m_1)
             have q330 : x7_1 < (t327.length : Int) := of_decide_eq_true (m_1)
             obtain ⟨ad330, e330, hx330_0⟩ := Kd.at_int (Kd.R_reads' HO_5.out).2.2 x7_1 p330 q330
             cases e330
             replace p330 := eq_true p330
             replace q330 := eq_true q330
             have p331 : 0 ≤ (x7_1 : Int) := of_decide_eq_true (m_1)
             have q331 : x7_1 < (t327.length : Int) := of_decide_eq_true (m_1)
             obtain ⟨ad331, e331, hx331_0⟩ := Kd.at_int (Kd.R_reads' HO_5.out).2.2 x7_1 p331 q331
             obtain rfl : ad330 = ad331 := (by injection e331)
             replace p331 := eq_true p331
             replace q331 := eq_true q331
             go_wp2
             go_roundg k1
             case measure => have := HK1.out; omega
             case rel => exact ⟨(wrap64 ((wrap64 (2 * x6_1)) + (wrap64 (Int.tmod (ji10) 2)))), (wrap64 (x7_1 + 1)), (by first | rfl | (simp; done) | (simp only [← hji10] <;> (first | rfl | simp)) | (simp [*]; done)), (m_5), H', ⟨by have := HK1.out; omega⟩, ⟨m_33⟩, ⟨m_0⟩⟩
         · rw [if_neg c9] at H
           exact absurd H (by simp)
       · rw [if_neg c7] at H
         have c7b0 : decide (0 ≤ (rd t327 x7_1)) = false := decide_eq_false c7
         clear c7
         by_cases c14 : x7_1 = 0
         · rw [if_pos c14] at H
           have c14b0 : (x7_1 == 0) = true := beq_iff_eq.mpr c14
           have c14b1 : (x7_1 != 0) = false := bne_eq_false_iff_eq.mpr c14
           clear c14
           have H' := Aside0.mk H
           clear H
           obtain ⟨Ao15, co15, eo15⟩ := Kd.R_slice HO_5.out
           subst eo15
           have p330 : 0 ≤ (x7_1 : Int) := of_decide_eq_true (m_1)
           have q330 : x7_1 < (t327.length : Int) := of_decide_eq_true (m_1)
           obtain ⟨ad330, e330, hx330_0⟩ := Kd.at_int (Kd.R_reads' HO_5.out).2.2 x7_1 p330 q330
           cases e330
           replace p330 := eq_true p330
           replace q330 := eq_true q330
           go_wp2
           go_roundg k1
           case measure => have := HK1.out; omega
           case rel => exact ⟨(wrap64 ((wrap64 (2 * x6_1)) + (-0))), (wrap64 (x7_1 + 1)), (m_5), (m_5), H', ⟨by have := HK1.out; omega⟩, ⟨m_33⟩, ⟨m_0⟩⟩
         · rw [if_neg c14] at H
           have c14b0 : (x7_1 == 0) = false := beq_eq_false_iff_ne.mpr c14
           have c14b1 : (x7_1 != 0) = true := bne_iff_ne.mpr c14
           have H' := Aside0.mk H
           clear H
           obtain ⟨Ao16, co16, eo16⟩ := Kd.R_slice HO_5.out
           subst eo16
           have p330 : 0 ≤ (x7_1 : Int) := of_decide_eq_true (m_1)
           have q330 : x7_1 < (t327.length : Int) := of_decide_eq_true (m_1)
           obtain ⟨ad330, e330, hx330_0⟩ := Kd.at_int (Kd.R_reads' HO_5.out).2.2 x7_1 p330 q330
           cases e330
           replace p330 := eq_true p330
           replace q330 := eq_true q330
           go_wp2
           go_roundg k1
           case measure => have := HK1.out; omega
           case rel => exact ⟨(wrap64 ((wrap64 (2 * x6_1)) + 0)), (wrap64 (x7_1 + 1)), (m_5), (m_5), H', ⟨by have := HK1.out; omega⟩, ⟨m_33⟩, ⟨m_0⟩⟩
     · rw [if_neg c6] at H
       exact absurd H (by simp)
   · rw [if_neg c5] at H
     have c5b0 : decide (x7_1 < (t327.length : Int)) = false := decide_eq_false c5
     clear c5
     obtain rfl := Option.some.inj H
     obtain ⟨Ao17, co17, eo17⟩ := Kd.R_slice HO_5.out
     subst eo17
     go_wp2
     go_ret
     exact ⟨m_3, m_0⟩
end Go.Proofs.Ytihecimbhhlhaaa.PRs
end
section
namespace Go.Proofs.Ytihecimbhhlhaaa.PRs
open Go.RowKit Go.Proofs.YtihecimbhhlhaaaW.PrintWords Go.Proofs.YtihecimbhhlhaaaW.PrintLast Go.Proofs.YtihecimbhhlhaaaW.PrintMore
set_option linter.unusedVariables false
set_option linter.unusedSimpArgs false
/-! ### d2P: function 44 -/
def d2P.l0 : Nat → Int → Int → List Int → Int → Int → Option (Int × Bool)
 | 0, _, _, _, _, _ => none
 | k + 1, x0, x1, x6, x7, x8 => if x8 < (x6.length : Int) then (if 0 ≤ x8 then (if (rd x6 x8) ≥ 0 then (if 0 ≤ (IntKind.u64.wrap (wrap64 ((wrap64 ((x6.length : Int) - 1)) - x8))) then (if ((shr .u32 ((x1) % 4294967296) (IntKind.u64.wrap (wrap64 ((wrap64 ((x6.length : Int) - 1)) - x8)))) % 2) = 1 then (if 0 ≤ (IntKind.u64.wrap (rd x6 x8)) then (d2P.l0 k x0 x1 x6 ((x7 + (shl .u32 1 (IntKind.u64.wrap (rd x6 x8)))) % 4294967296) (wrap64 (x8 + 1))) else (none)) else (d2P.l0 k x0 x1 x6 x7 (wrap64 (x8 + 1)))) else (none)) else (d2P.l0 k x0 x1 x6 x7 (wrap64 (x8 + 1)))) else (none)) else (if (x6.length : Int) = 0 then (some (0, false)) else ((d2G.f k x0 x7).bind fun t337 => (if t337 = x1 then (some (x7, true)) else (some (0, false)))))
def d2P.f (k : Nat) (a0 : Int) (a1 : Int) : Option (Int × Bool) := (d2B.f a0).bind fun t332 => (d2P.l0 k a0 a1 t332 0 0)
theorem d2P.mono_l : ∀ k, (∀ y0 y1 y2 y3 y4, LeO (d2P.l0 k y0 y1 y2 y3 y4) (d2P.l0 (k + 1) y0 y1 y2 y3 y4))
 | 0 => fun _ _ _ _ _ r h => by simp [d2P.l0] at h
 | k + 1 => by
  have ih0 := d2P.mono_l k
  · intro y0 y1 y2 y3 y4
    unfold d2P.l0
    repeat' first
    | (with_reducible exact ih0 _ _ _ _ _)
    | (with_reducible exact d2G.mono _ _ _)
    | (with_reducible exact LeO.refl _)
    | (with_reducible exact LeO.none _)
    | (with_reducible refine LeO.ite ?_ ?_)
    | (with_reducible refine LeO.bind ?_ (fun _ => ?_))
    | exact ih0 _ _ _ _ _
    | exact d2G.mono _ _ _
    | exact LeO.none _
    | refine LeO.ite ?_ ?_
    | refine LeO.bind ?_ (fun _ => ?_)
theorem d2P.mono : ∀ a0 a1 k, LeO (d2P.f k a0 a1) (d2P.f (k + 1) a0 a1) := by
 intro a0 a1 k
 have ih0 := d2P.mono_l k
 unfold d2P.f
 repeat' first
  | (with_reducible exact ih0 _ _ _ _ _)
  | (with_reducible exact d2G.mono _ _ _)
  | (with_reducible exact LeO.refl _)
  | (with_reducible exact LeO.none _)
  | (with_reducible refine LeO.ite ?_ ?_)
  | (with_reducible refine LeO.bind ?_ (fun _ => ?_))
  | exact ih0 _ _ _ _ _
  | exact d2G.mono _ _ _
  | exact LeO.none _
  | refine LeO.ite ?_ ?_
  | refine LeO.bind ?_ (fun _ => ?_)
theorem lfxRsPintleref02Put0 {P : Prop} (h : P := by
 simp only [Option.some.injEq, Prod.mk.injEq] at H
 obtain ⟨rfl, rfl⟩ := H
 obtain ⟨Ao_0, co_1, eo_2⟩ := Kd.R_slice HO_6.out
 subst eo_2
 go_wp2_with (first | (go_at_call 30; (with_reducible refine (d2G.calls k1 a0 x7_1 t337 _ A20.out).mono ?_); rintro e w_3 ⟨rfl, hb⟩; have n_4 := Aside0.mk (Kd.R_below (m_12) hb); have n_5 := Aside0.mk (below_step (m_0) hb); clear HO_6; clear HB; have HO_6 := n_4; have HB := n_5; clear n_4 n_5; (try clear hb); (try clear hb2); (try clear hk); (try clear hi)))
 go_ret2
 exact ⟨m_3, m_0⟩) : P := h
theorem lfxRsPintleref02Put1 {P : Prop} (h : P := by
 have H' := Aside0.mk H
 clear H
 obtain ⟨Ao_0, co_1, eo_2⟩ := Kd.R_slice HO_6.out
 subst eo_2
 have p_3 : 0 ≤ (x8_1 : Int) := of_decide_eq_true (m_1)
 have q_4 : x8_1 < (t332.length : Int) := of_decide_eq_true (m_1)
 obtain ⟨ad_5, e_6, hx_7⟩ := Kd.at_int (Kd.R_reads' HO_6.out).2.2 x8_1 p_3 q_4
 cases e_6
 replace p_3 := eq_true p_3
 replace q_4 := eq_true q_4
 go_wp2
 go_roundg k1
 case measure => have := HK1.out; omega
 case rel => exact ⟨(x7_1), (wrap64 (x8_1 + 1)), (m_5), (m_5), H', ⟨by have := HK1.out; omega⟩, ⟨m_12⟩, ⟨m_0⟩⟩) : P := h
set_option maxHeartbeats 8000000 in
set_option maxRecDepth 100000 in
theorem d2P.calls (k : Nat) (a0 : Int) (a1 : Int) (r1 : Int) (r2 : Bool) (w : World) (h : d2P.f k a0 a1 = some (r1, r2)) :
 Calls Try.prog 44 #[.int .i64 a0, .int .i32 a1] w fun e w' => e = .returned (.tuple #[.int .u32 r1, .bool r2]) ∧ Below w.heap.size w w' := by
 have HB := Aside0.mk (Below.refl w.heap.size w)
 have H : ((d2B.f a0).bind fun t332 => (d2P.l0 k a0 a1 t332 0 0)) = some (r1, r2) := h
 clear h
 replace H := Option.bind_eq_some_iff.mp H
 obtain ⟨t332, A30, H⟩ := H
 replace H : (d2P.l0 k a0 a1 t332 0 0) = some (r1, r2) := H
 have A3 := Aside0.mk A30
 clear A30
 have H' := Aside0.mk H
 clear H
 go_enter Try.func44, Try.ntmps44
 go_wp2_with (first | ((with_reducible refine gate_callee (f := 42) rfl ?_); refine goesL_ (some 11) rfl rfl Try.func42 (by kernel_rfl) rfl #[.int .i64 a0] rfl (m_8) ?_; (with_reducible refine (d2B.calls a0 t332 _ A3.out).mono ?_); rintro e w4 ⟨v333, rfl, ho0, hb⟩; refine ⟨_, rfl, ?_⟩; have n0_ := Aside0.mk (Kd.R_lower ho0 (below_size (m_0))); have n1_ := Aside0.mk (below_step (m_0) hb); clear HB; have HO334 := n0_; have HB := n1_; clear n0_ n1_; (try clear hb); (try clear hb2); (try clear hk); (try clear hi); (try clear ho0)))
 go_loopg [7, 8] k (fun kq v7 v8 w' => ∃ (x7_1 : Int) (x8_1 : Int), v7 = .int .u32 x7_1 ∧ v8 = .int .i64 x8_1 ∧ Aside0 (d2P.l0 kq a0 a1 t332 x7_1 x8_1 = some (r1, r2)) ∧ Aside0 (kq ≤ k) ∧ Aside0 (Kd.R (Kd.int .i64) 3 w' w.heap.size (fun _ => True) v333 t332) ∧ Aside0 (Below w.heap.size w w'))
 case atStart => exact ⟨(0), (0), (m_5), (m_5), H', ⟨Nat.le_refl _⟩, ⟨by (with_reducible repeat (first | apply Kd.R_alloc | apply Kd.R_drewN | apply Kd.R_drew)); exact HO334.out⟩, ⟨m_0⟩⟩
 case round =>
  clear H'
  obtain ⟨x7_1, x8_1, rfl, rfl, HA, HK1, HO_6, HB⟩ := hrel
  cases gk with
  | zero => exact absurd HA.out (by simp [d2P.l0])
  | succ k1 =>
   have H := HA.out
   clear HA
   simp only [d2P.l0] at H
   by_cases c5 : x8_1 < (t332.length : Int)
   · rw [if_pos c5] at H
     have c5b0 : decide (x8_1 < (t332.length : Int)) = true := decide_eq_true c5
     clear c5
     by_cases c6 : 0 ≤ x8_1
     · rw [if_pos c6] at H
       have c6b0 : decide (0 ≤ x8_1) = true := decide_eq_true c6
       clear c6
       by_cases c7 : (rd t332 x8_1) ≥ 0
       · rw [if_pos c7] at H
         have c7b0 : decide (0 ≤ (rd t332 x8_1)) = true := decide_eq_true c7
         clear c7
         obtain ⟨ji8, hji8⟩ : ∃ j_ : Int, (IntKind.u64.wrap (wrap64 ((wrap64 ((t332.length : Int) - 1)) - x8_1))) = j_ := ⟨_, rfl⟩
         replace H : (if 0 ≤ (ji8) then (if ((shr .u32 ((a1) % 4294967296) (ji8)) % 2) = 1 then (if 0 ≤ (IntKind.u64.wrap (rd t332 x8_1)) then (d2P.l0 k1 a0 a1 t332 ((x7_1 + (shl .u32 1 (IntKind.u64.wrap (rd t332 x8_1)))) % 4294967296) (wrap64 (x8_1 + 1))) else (none)) else (d2P.l0 k1 a0 a1 t332 x7_1 (wrap64 (x8_1 + 1)))) else (none)) = some (r1, r2) := by first | (rw [hji8] at H; exact H) | (simp only [hji8] at H ⊢; exact H)
         by_cases c9 : 0 ≤ (ji8)
         · rw [if_pos c9] at H
           have c9b0 := eq_true c9
           have c9b1 : decide (0 ≤ (ji8)) = true := decide_eq_true c9
           clear c9
           obtain ⟨ji10, hji10⟩ : ∃ j_ : Int, (shr .u32 ((a1) % 4294967296) (ji8)) = j_ := ⟨_, rfl⟩
           replace H : (if ((ji10) % 2) = 1 then (if 0 ≤ (IntKind.u64.wrap (rd t332 x8_1)) then (d2P.l0 k1 a0 a1 t332 ((x7_1 + (shl .u32 1 (IntKind.u64.wrap (rd t332 x8_1)))) % 4294967296) (wrap64 (x8_1 + 1))) else (none)) else (d2P.l0 k1 a0 a1 t332 x7_1 (wrap64 (x8_1 + 1)))) = some (r1, r2) := by first | (rw [hji10] at H; exact H) | (simp only [hji10] at H ⊢; exact H)
           have hji10_ : (((a1) % 4294967296) / 2 ^ min (ji8).toNat 32) = ji10 := hji10
           have hji10z : (ji8) ≤ 32 → (((a1) % 4294967296) / 2 ^ (ji8).toNat) = ji10 := shr_small hji10
           have hj0_ : 0 ≤ ji10 := by
            rw [← hji10]
            exact Int.ediv_nonneg (by omega) (Int.le_of_lt (Int.pow_pos (by decide)))
           by_cases c11 : ((ji10) % 2) = 1
           · rw [if_pos c11] at H
             have c11b0 : (((ji10) % 2) == 1) = true := beq_iff_eq.mpr c11
             have c11b1 : (((ji10) % 2) != 1) = false := bne_eq_false_iff_eq.mpr c11
             clear c11
             obtain ⟨ji12, hji12⟩ : ∃ j_ : Int, (IntKind.u64.wrap (rd t332 x8_1)) = j_ := ⟨_, rfl⟩
             replace H : (if 0 ≤ (ji12) then (d2P.l0 k1 a0 a1 t332 ((x7_1 + (shl .u32 1 (ji12))) % 4294967296) (wrap64 (x8_1 + 1))) else (none)) = some (r1, r2) := by first | (rw [hji12] at H; exact H) | (simp only [hji12] at H ⊢; exact H)
             by_cases c13 : 0 ≤ (ji12)
             · rw [if_pos c13] at H
               have c13b0 := eq_true c13
               have c13b1 : decide (0 ≤ (ji12)) = true := decide_eq_true c13
               clear c13
               obtain ⟨ji14, hji14⟩ : ∃ j_ : Int, (shl .u32 1 (ji12)) = j_ := ⟨_, rfl⟩
               replace H : (d2P.l0 k1 a0 a1 t332 ((x7_1 + (ji14)) % 4294967296) (wrap64 (x8_1 + 1))) = some (r1, r2) := by first | (rw [hji14] at H; exact H) | (simp only [hji14] at H ⊢; exact H)
               have hji14_ : (IntKind.u32.wrap (1 * 2 ^ min (ji12).toNat 32)) = ji14 := hji14
               have hji14z : (ji12) ≤ 32 → (IntKind.u32.wrap (1 * 2 ^ (ji12).toNat)) = ji14 := shl_small hji14
               have hji14u : (IntKind.u32.wrap (2 ^ min (ji12).toNat 32)) = ji14 := by have h_ := hji14_; rw [Int.one_mul] at h_; exact h_
               have hji14v : (ji12) ≤ 32 → (IntKind.u32.wrap (2 ^ (ji12).toNat)) = ji14 := fun hle_ => by have h_ := hji14z hle_; rw [Int.one_mul] at h_; exact h_
               have H' := Aside0.mk H
               clear H
               obtain ⟨Ao15, co15, eo15⟩ := Kd.R_slice HO_6.out
               subst eo15
               have p335 : 0 ≤ (x8_1 : Int) := of_decide_eq_true (m_1)
               have q335 : x8_1 < (t332.length : Int) := of_decide_eq_true (m_1)
               obtain ⟨ad335, e335, hx335_0⟩ := Kd.at_int (Kd.R_reads' HO_6.out).2.2 x8_1 p335 q335
               cases e335
               replace p335 := eq_true p335
               replace q335 := eq_true q335
               have p336 : 0 ≤ (x8_1 : Int) := of_decide_eq_true (m_1)
               have q336 : x8_1 < (t332.length : Int) := of_decide_eq_true (m_1)
               obtain ⟨ad336, e336, hx336_0⟩ := Kd.at_int (Kd.R_reads' HO_6.out).2.2 x8_1 p336 q336
               obtain rfl : ad335 = ad336 := (by injection e336)
               replace p336 := eq_true p336
               replace q336 := eq_true q336
               go_wp2
               go_roundg k1
               case measure => have := HK1.out; omega
               case rel => exact ⟨((x7_1 + (ji14)) % 4294967296), (wrap64 (x8_1 + 1)), (by first | rfl | (simp; done) | (simp only [← hji14] <;> (first | rfl | simp)) | (simp [*]; done)), (m_5), H', ⟨by have := HK1.out; omega⟩, ⟨m_12⟩, ⟨m_0⟩⟩
             · rw [if_neg c13] at H
               exact absurd H (by simp)
           · rw [if_neg c11] at H
             have c11b0 : (((ji10) % 2) == 1) = false := beq_eq_false_iff_ne.mpr c11
             have c11b1 : (((ji10) % 2) != 1) = true := bne_iff_ne.mpr c11
             exact lfxRsPintleref02Put1
         · rw [if_neg c9] at H
           exact absurd H (by simp)
       · rw [if_neg c7] at H
         have c7b0 : decide (0 ≤ (rd t332 x8_1)) = false := decide_eq_false c7
         clear c7
         exact lfxRsPintleref02Put1
     · rw [if_neg c6] at H
       exact absurd H (by simp)
   · rw [if_neg c5] at H
     have c5b0 : decide (x8_1 < (t332.length : Int)) = false := decide_eq_false c5
     clear c5
     by_cases c18 : (t332.length : Int) = 0
     · rw [if_pos c18] at H
       have c18b0 : ((t332.length : Int) == 0) = true := beq_iff_eq.mpr c18
       have c18b1 : ((t332.length : Int) != 0) = false := bne_eq_false_iff_eq.mpr c18
       clear c18
       simp only [Option.some.injEq, Prod.mk.injEq] at H
       obtain ⟨rfl, rfl⟩ := H
       obtain ⟨Ao19, co19, eo19⟩ := Kd.R_slice HO_6.out
       subst eo19
       go_wp2
       go_ret2
       exact ⟨m_3, m_0⟩
     · rw [if_neg c18] at H
       have c18b0 : ((t332.length : Int) == 0) = false := beq_eq_false_iff_ne.mpr c18
       have c18b1 : ((t332.length : Int) != 0) = true := bne_iff_ne.mpr c18
       have c18b2 : ¬ (t332 = []) := fun h_ => c18 (by rw [h_]; rfl)
       replace H := Option.bind_eq_some_iff.mp H
       obtain ⟨t337, A200, H⟩ := H
       replace H : (if t337 = a1 then (some (x7_1, true)) else (some (0, false))) = some (r1, r2) := H
       have A20 := Aside0.mk A200
       clear A200
       by_cases c21 : t337 = a1
       · rw [if_pos c21] at H
         have c21b0 : (t337 == a1) = true := beq_iff_eq.mpr c21
         have c21b1 : (t337 != a1) = false := bne_eq_false_iff_eq.mpr c21
         clear c21
         exact lfxRsPintleref02Put0
       · rw [if_neg c21] at H
         have c21b0 : (t337 == a1) = false := beq_eq_false_iff_ne.mpr c21
         have c21b1 : (t337 != a1) = true := bne_iff_ne.mpr c21
         exact lfxRsPintleref02Put0
end Go.Proofs.Ytihecimbhhlhaaa.PRs
end
section
namespace Go.Proofs.Ytihecimbhhlhaaa.PRs
open Go.RowKit Go.Proofs.YtihecimbhhlhaaaW.PrintWords Go.Proofs.YtihecimbhhlhaaaW.PrintLast Go.Proofs.YtihecimbhhlhaaaW.PrintMore
set_option linter.unusedVariables false
set_option linter.unusedSimpArgs false
/-! ### d3r: function 43 -/
def d3r.f (a0 : Int) (a1 : Bool) : Option (Bool) := if a0 ≥ 0 then (if a0 < 32 then (if a1 = true then (some true) else (some (a0 == 0))) else (some false)) else (some false)
set_option maxHeartbeats 8000000 in
set_option maxRecDepth 100000 in
theorem d3r.calls (a0 : Int) (a1 : Bool) (r : Bool) (w : World) (h : d3r.f a0 a1 = some r) :
 Calls Try.prog 43 #[.int .i64 a0, .bool a1] w fun e w' => e = .returned (.bool r) ∧ Drawn0 w w' := by
 have H : (if a0 ≥ 0 then (if a0 < 32 then (if a1 = true then (some true) else (some (a0 == 0))) else (some false)) else (some false)) = some r := h
 clear h
 by_cases c3 : a0 ≥ 0
 · rw [if_pos c3] at H
   have c3b0 : decide (0 ≤ a0) = true := decide_eq_true c3
   clear c3
   by_cases c4 : a0 < 32
   · rw [if_pos c4] at H
     have c4b0 : decide (a0 < 32) = true := decide_eq_true c4
     clear c4
     by_cases c5 : a1 = true
     · subst c5
       have H1 : (some true) = some r := by rw [if_pos rfl] at H; exact H
       clear H
       have H := H1
       clear H1
       obtain rfl := Option.some.inj H
       go_enter Try.func43, Try.ntmps43
       go_wp2
       go_ret
       exact ⟨m_5, m_19⟩
     · replace c5 := Bool.eq_false_iff.mpr c5
       subst c5
       have H1 : (some (a0 == 0)) = some r := by rw [if_neg (show ¬ (false = true) by decide)] at H; exact H
       clear H
       have H := H1
       clear H1
       obtain rfl := Option.some.inj H
       go_enter Try.func43, Try.ntmps43
       go_wp2
       go_ret
       exact ⟨m_5, m_19⟩
   · rw [if_neg c4] at H
     have c4b0 : decide (a0 < 32) = false := decide_eq_false c4
     clear c4
     obtain rfl := Option.some.inj H
     go_enter Try.func43, Try.ntmps43
     go_wp2
     go_ret
     exact ⟨m_5, m_19⟩
 · rw [if_neg c3] at H
   have c3b0 : decide (0 ≤ a0) = false := decide_eq_false c3
   clear c3
   obtain rfl := Option.some.inj H
   go_enter Try.func43, Try.ntmps43
   go_wp2
   go_ret
   exact ⟨m_5, m_19⟩
end Go.Proofs.Ytihecimbhhlhaaa.PRs
end
