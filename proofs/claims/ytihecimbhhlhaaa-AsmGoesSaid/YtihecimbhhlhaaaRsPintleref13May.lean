/- d13m: a plain function with the same answers as the program's, and the proof of it, as a program has written them. -/
import Derived.Test.YtihecimbhhlhaaaRsG1
import Derived.Test.YtihecimbhhlhaaaRsPintleref03Encode
import Derived.Test.YtihecimbhhlhaaaRsMc
namespace Go.Proofs.Ytihecimbhhlhaaa.PRs
open Go.RowKit Go.Proofs.YtihecimbhhlhaaaW.PrintWords Go.Proofs.YtihecimbhhlhaaaW.PrintLast Go.Proofs.YtihecimbhhlhaaaW.PrintMore
set_option linter.unusedVariables false
set_option linter.unusedSimpArgs false
attribute [local go_sem high] eqA32
/-! ### d13m: function 41 -/
def d13m.f (k : Nat) (a0_0 : Int) (a0_1 : Int) (a0_2 : Int) (a0_3 : Int) (a0_4 : Int) (a0_5 : Int) (a0_6 : Int) : Option (Bool) := (d3E.f k a0_1 a0_2 a0_3 a0_4 a0_5).bind fun bt354 => (if a0_0 = 1 then (some bt354.2) else (if a0_0 = 2 then (some (a0_1 == 0 && (a0_2 == 0 && (a0_3 == 0 && (a0_4 == 0 && (a0_5 == 0)))))) else (if a0_0 = 3 then (if bt354.2 = true then (if a0_1 ≥ 36 then (if a0_1 ≤ 41 then (some (a0_5 == 0)) else (some false)) else (some false)) else (some false)) else (if a0_0 = 4 then (if bt354.2 = true then (if a0_1 = 44 then (some (a0_5 == 0)) else (some false)) else (some false)) else (if a0_0 = 5 then (if a0_1 = 0 then (if a0_3 = 0 then (if a0_4 = 0 then (if a0_2 ≥ 1 then (some (decide (a0_2 ≤ 31))) else (some false)) else (some false)) else (some false)) else (some false)) else (some false))))))
theorem lfxRsPintleref13May0 {P : Prop} (h : P := by
 obtain rfl := Option.some.inj H
 go_enter Try.func41, Try.ntmps41
 go_wp2_with (first | ((with_reducible refine gate_dst (N := 1) rfl ?_); refine box_event ?hg (N := 1) ?hd (cs := #[.int .i64 a0_0, .int .i64 a0_1, .int .i64 a0_2, .int .i64 a0_3, .int .i64 a0_4, .int .i32 a0_5, .int .i64 a0_6]) (t := 34) ?hr ?_; (case hd => rfl); (case hg => rfl); (case hr => exact m_14); intro gb_0 hg w_1 hbox hb; have n_2 := Aside0.mk (below_step (m_0) hb); have n_3 := Aside0.mk (hbox); have n_4 := Aside0.mk ((m_21 : w.heap.size ≤ gb_0)); have n_5 := Aside0.mk ((m_21 : w.heap.size ≤ gb_0)); clear HB; have HB := n_2; have BK_6 := n_3; have GW_7 := n_4; have GE_8 := n_5; clear n_2 n_3 n_4 n_5; clear hb hbox hg; obtain ⟨hcz_9, hcz_10, hcz_11, hcz_12, hcz_13, hcz_14, hcz_15, hfz_16, hfz_17, hfz_18, hfz_19, hfz_20, hfz_21, hfz_22⟩ := cz7 (w := w_1) BK_6.out) | ((with_reducible refine gate_callee (f := 31) rfl ?_); refine goesL_ (some 9) rfl rfl Try.func31 (by kernel_rfl) rfl #[.agg #[.int .i64 a0_1, .int .i64 a0_2, .int .i64 a0_3, .int .i64 a0_4, .int .i32 a0_5]] rfl (m_8) ?_; (with_reducible refine (d3E.calls k a0_1 a0_2 a0_3 a0_4 a0_5 t354 t355 _ A2.out).mono ?_); rintro e w_23 ⟨rfl, hb⟩; refine ⟨_, rfl, ?_⟩; have n_2 := Aside0.mk (blk_below (g := gb_0) (o := .cells #[.int .i64 a0_0, .int .i64 a0_1, .int .i64 a0_2, .int .i64 a0_3, .int .i64 a0_4, .int .i32 a0_5, .int .i64 a0_6] 34 (0, 0)) (m_32) hb); have n_3 := Aside0.mk (below_step (m_18) hb); clear BK_6; clear HB; have BK_6 := n_2; have HB := n_3; clear n_2 n_3; (try clear hb); (try clear hb2); (try clear hk); (try clear hi); obtain ⟨hcz_24, hcz_25, hcz_26, hcz_27, hcz_28, hcz_29, hcz_30, hfz_31, hfz_32, hfz_33, hfz_34, hfz_35, hfz_36, hfz_37⟩ := cz7 (w := w_23) BK_6.out) | ((with_reducible refine gate_dst (N := 5) rfl ?_); refine box_event ?hg (N := 5) ?hd (cs := #[.int .i64 0, .int .i64 0, .int .i64 0, .int .i64 0, .int .i32 0]) (t := 32) ?hr ?_; (case hd => rfl); (case hg => rfl); (case hr => exact m_14); intro gb_38 hg w_39 hbox hb; have n_2 := Aside0.mk (blk_below (g := gb_0) (o := .cells #[.int .i64 a0_0, .int .i64 a0_1, .int .i64 a0_2, .int .i64 a0_3, .int .i64 a0_4, .int .i32 a0_5, .int .i64 a0_6] 34 (0, 0)) (m_32) hb); have n_3 := Aside0.mk (below_step (m_18) hb); have n_4 := Aside0.mk (hbox); have n_5 := Aside0.mk ((by rw [hg]; exact (below_size (m_18)) : w.heap.size ≤ gb_38)); have n_40 := Aside0.mk ((by rw [hg]; exact (below_size (m_18)) : w.heap.size ≤ gb_38)); have n_41 := Aside0.mk ((m_53 : gb_0 ≠ gb_38)); have n_42 := Aside0.mk ((m_54 : gb_38 ≠ gb_0)); clear BK_6; clear HB; have BK_6 := n_2; have HB := n_3; have BK_43 := n_4; have GW_44 := n_5; have GE_45 := n_40; have NB_46 := n_41; have NB_47 := n_42; clear n_2 n_3 n_4 n_5 n_40 n_41 n_42; clear hb hbox hg; have hnb_48 := NB_47.out; have hnc_49 := NB_46.out; obtain ⟨hcz_50, hcz_51, hcz_52, hcz_53, hcz_54, hfz_55, hfz_56, hfz_57, hfz_58, hfz_59⟩ := cz5 (w := w_39) BK_43.out; obtain ⟨hcz_60, hcz_61, hcz_62, hcz_63, hcz_64, hcz_65, hcz_66, hfz_67, hfz_68, hfz_69, hfz_70, hfz_71, hfz_72, hfz_73⟩ := cz7 (w := w_39) BK_6.out))
 go_ret
 exact ⟨m_3, by repeat (first | (with_reducible first | exact HB.out | apply below_alloc | apply pw_below_drewN | apply below_drew1 | refine below_set ?_ GE_8.out | refine below_set ?_ GE_45.out) | exact HB.out)⟩) : P := h
theorem lfxRsPintleref13May1 {P : Prop} (h : P := by
 obtain rfl := Option.some.inj H
 go_enter Try.func41, Try.ntmps41
 go_wp2_with (first | ((with_reducible refine gate_dst (N := 1) rfl ?_); refine box_event ?hg (N := 1) ?hd (cs := #[.int .i64 a0_0, .int .i64 a0_1, .int .i64 a0_2, .int .i64 a0_3, .int .i64 a0_4, .int .i32 a0_5, .int .i64 a0_6]) (t := 34) ?hr ?_; (case hd => rfl); (case hg => rfl); (case hr => exact m_14); intro gb_0 hg w_1 hbox hb; have n_2 := Aside0.mk (below_step (m_0) hb); have n_3 := Aside0.mk (hbox); have n_4 := Aside0.mk ((m_21 : w.heap.size ≤ gb_0)); have n_5 := Aside0.mk ((m_21 : w.heap.size ≤ gb_0)); clear HB; have HB := n_2; have BK_6 := n_3; have GW_7 := n_4; have GE_8 := n_5; clear n_2 n_3 n_4 n_5; clear hb hbox hg; obtain ⟨hcz_9, hcz_10, hcz_11, hcz_12, hcz_13, hcz_14, hcz_15, hfz_16, hfz_17, hfz_18, hfz_19, hfz_20, hfz_21, hfz_22⟩ := cz7 (w := w_1) BK_6.out) | ((with_reducible refine gate_callee (f := 31) rfl ?_); refine goesL_ (some 9) rfl rfl Try.func31 (by kernel_rfl) rfl #[.agg #[.int .i64 a0_1, .int .i64 a0_2, .int .i64 a0_3, .int .i64 a0_4, .int .i32 a0_5]] rfl (m_8) ?_; (with_reducible refine (d3E.calls k a0_1 a0_2 a0_3 a0_4 a0_5 t354 true _ A2.out).mono ?_); rintro e w_23 ⟨rfl, hb⟩; refine ⟨_, rfl, ?_⟩; have n_2 := Aside0.mk (blk_below (g := gb_0) (o := .cells #[.int .i64 a0_0, .int .i64 a0_1, .int .i64 a0_2, .int .i64 a0_3, .int .i64 a0_4, .int .i32 a0_5, .int .i64 a0_6] 34 (0, 0)) (m_32) hb); have n_3 := Aside0.mk (below_step (m_18) hb); clear BK_6; clear HB; have BK_6 := n_2; have HB := n_3; clear n_2 n_3; (try clear hb); (try clear hb2); (try clear hk); (try clear hi); obtain ⟨hcz_24, hcz_25, hcz_26, hcz_27, hcz_28, hcz_29, hcz_30, hfz_31, hfz_32, hfz_33, hfz_34, hfz_35, hfz_36, hfz_37⟩ := cz7 (w := w_23) BK_6.out) | ((with_reducible refine gate_dst (N := 5) rfl ?_); refine box_event ?hg (N := 5) ?hd (cs := #[.int .i64 0, .int .i64 0, .int .i64 0, .int .i64 0, .int .i32 0]) (t := 32) ?hr ?_; (case hd => rfl); (case hg => rfl); (case hr => exact m_14); intro gb_38 hg w_39 hbox hb; have n_2 := Aside0.mk (blk_below (g := gb_0) (o := .cells #[.int .i64 a0_0, .int .i64 a0_1, .int .i64 a0_2, .int .i64 a0_3, .int .i64 a0_4, .int .i32 a0_5, .int .i64 a0_6] 34 (0, 0)) (m_32) hb); have n_3 := Aside0.mk (below_step (m_18) hb); have n_4 := Aside0.mk (hbox); have n_5 := Aside0.mk ((by rw [hg]; exact (below_size (m_18)) : w.heap.size ≤ gb_38)); have n_40 := Aside0.mk ((by rw [hg]; exact (below_size (m_18)) : w.heap.size ≤ gb_38)); have n_41 := Aside0.mk ((m_53 : gb_0 ≠ gb_38)); have n_42 := Aside0.mk ((m_54 : gb_38 ≠ gb_0)); clear BK_6; clear HB; have BK_6 := n_2; have HB := n_3; have BK_43 := n_4; have GW_44 := n_5; have GE_45 := n_40; have NB_46 := n_41; have NB_47 := n_42; clear n_2 n_3 n_4 n_5 n_40 n_41 n_42; clear hb hbox hg; have hnb_48 := NB_47.out; have hnc_49 := NB_46.out; obtain ⟨hcz_50, hcz_51, hcz_52, hcz_53, hcz_54, hfz_55, hfz_56, hfz_57, hfz_58, hfz_59⟩ := cz5 (w := w_39) BK_43.out; obtain ⟨hcz_60, hcz_61, hcz_62, hcz_63, hcz_64, hcz_65, hcz_66, hfz_67, hfz_68, hfz_69, hfz_70, hfz_71, hfz_72, hfz_73⟩ := cz7 (w := w_39) BK_6.out))
 go_ret
 exact ⟨m_3, by repeat (first | (with_reducible first | exact HB.out | apply below_alloc | apply pw_below_drewN | apply below_drew1 | refine below_set ?_ GE_8.out | refine below_set ?_ GE_45.out) | exact HB.out)⟩) : P := h
theorem lfxRsPintleref13May2 {P : Prop} (h : P := by
 have H_0 : (some false) = some r := by rw [if_neg (show ¬ (false = true) by decide)] at H; exact H
 clear H
 have H := H_0
 clear H_0
 obtain rfl := Option.some.inj H
 go_enter Try.func41, Try.ntmps41
 go_wp2_with (first | ((with_reducible refine gate_dst (N := 1) rfl ?_); refine box_event ?hg (N := 1) ?hd (cs := #[.int .i64 a0_0, .int .i64 a0_1, .int .i64 a0_2, .int .i64 a0_3, .int .i64 a0_4, .int .i32 a0_5, .int .i64 a0_6]) (t := 34) ?hr ?_; (case hd => rfl); (case hg => rfl); (case hr => exact m_14); intro gb_1 hg w_2 hbox hb; have n_3 := Aside0.mk (below_step (m_0) hb); have n_4 := Aside0.mk (hbox); have n_5 := Aside0.mk ((m_21 : w.heap.size ≤ gb_1)); have n_6 := Aside0.mk ((m_21 : w.heap.size ≤ gb_1)); clear HB; have HB := n_3; have BK_7 := n_4; have GW_8 := n_5; have GE_9 := n_6; clear n_3 n_4 n_5 n_6; clear hb hbox hg; obtain ⟨hcz_10, hcz_11, hcz_12, hcz_13, hcz_14, hcz_15, hcz_16, hfz_17, hfz_18, hfz_19, hfz_20, hfz_21, hfz_22, hfz_23⟩ := cz7 (w := w_2) BK_7.out) | ((with_reducible refine gate_callee (f := 31) rfl ?_); refine goesL_ (some 9) rfl rfl Try.func31 (by kernel_rfl) rfl #[.agg #[.int .i64 a0_1, .int .i64 a0_2, .int .i64 a0_3, .int .i64 a0_4, .int .i32 a0_5]] rfl (m_8) ?_; (with_reducible refine (d3E.calls k a0_1 a0_2 a0_3 a0_4 a0_5 t354 false _ A2.out).mono ?_); rintro e w_24 ⟨rfl, hb⟩; refine ⟨_, rfl, ?_⟩; have n_3 := Aside0.mk (blk_below (g := gb_1) (o := .cells #[.int .i64 a0_0, .int .i64 a0_1, .int .i64 a0_2, .int .i64 a0_3, .int .i64 a0_4, .int .i32 a0_5, .int .i64 a0_6] 34 (0, 0)) (m_64) hb); have n_4 := Aside0.mk (below_step (m_49) hb); clear BK_7; clear HB; have BK_7 := n_3; have HB := n_4; clear n_3 n_4; (try clear hb); (try clear hb2); (try clear hk); (try clear hi); obtain ⟨hcz_25, hcz_26, hcz_27, hcz_28, hcz_29, hcz_30, hcz_31, hfz_32, hfz_33, hfz_34, hfz_35, hfz_36, hfz_37, hfz_38⟩ := cz7 (w := w_24) BK_7.out) | ((with_reducible refine gate_dst (N := 5) rfl ?_); refine box_event ?hg (N := 5) ?hd (cs := #[.int .i64 0, .int .i64 0, .int .i64 0, .int .i64 0, .int .i32 0]) (t := 32) ?hr ?_; (case hd => rfl); (case hg => rfl); (case hr => exact m_14); intro gb_39 hg w_40 hbox hb; have n_3 := Aside0.mk (blk_below (g := gb_1) (o := .cells #[.int .i64 a0_0, .int .i64 a0_1, .int .i64 a0_2, .int .i64 a0_3, .int .i64 a0_4, .int .i32 a0_5, .int .i64 a0_6] 34 (0, 0)) (m_64) hb); have n_4 := Aside0.mk (below_step (m_49) hb); have n_5 := Aside0.mk (hbox); have n_6 := Aside0.mk ((by rw [hg]; exact (below_size (m_49)) : w.heap.size ≤ gb_39)); have n_41 := Aside0.mk ((by rw [hg]; exact (below_size (m_49)) : w.heap.size ≤ gb_39)); have n_42 := Aside0.mk ((by rw [hg]; exact Nat.ne_of_lt (blk_lt (g := gb_1) (o := .cells #[.int .i64 a0_0, .int .i64 a0_1, .int .i64 a0_2, .int .i64 a0_3, .int .i64 a0_4, .int .i32 a0_5, .int .i64 a0_6] 34 (0, 0)) (m_64)) : gb_1 ≠ gb_39)); have n_43 := Aside0.mk ((by rw [hg]; exact Nat.ne_of_gt (blk_lt (g := gb_1) (o := .cells #[.int .i64 a0_0, .int .i64 a0_1, .int .i64 a0_2, .int .i64 a0_3, .int .i64 a0_4, .int .i32 a0_5, .int .i64 a0_6] 34 (0, 0)) (m_64)) : gb_39 ≠ gb_1)); clear BK_7; clear HB; have BK_7 := n_3; have HB := n_4; have BK_44 := n_5; have GW_45 := n_6; have GE_46 := n_41; have NB_47 := n_42; have NB_48 := n_43; clear n_3 n_4 n_5 n_6 n_41 n_42 n_43; clear hb hbox hg; have hnb_49 := NB_48.out; have hnc_50 := NB_47.out; obtain ⟨hcz_51, hcz_52, hcz_53, hcz_54, hcz_55, hfz_56, hfz_57, hfz_58, hfz_59, hfz_60⟩ := cz5 (w := w_40) BK_44.out; obtain ⟨hcz_61, hcz_62, hcz_63, hcz_64, hcz_65, hcz_66, hcz_67, hfz_68, hfz_69, hfz_70, hfz_71, hfz_72, hfz_73, hfz_74⟩ := cz7 (w := w_40) BK_7.out))
 go_ret
 exact ⟨m_3, by repeat (first | (with_reducible first | exact HB.out | apply below_alloc | apply pw_below_drewN | apply below_drew1 | refine below_set ?_ GE_9.out | refine below_set ?_ GE_46.out) | exact HB.out)⟩) : P := h
set_option maxHeartbeats 8000000 in
set_option maxRecDepth 100000 in
theorem d13m.calls (k : Nat) (a0_0 : Int) (a0_1 : Int) (a0_2 : Int) (a0_3 : Int) (a0_4 : Int) (a0_5 : Int) (a0_6 : Int) (r : Bool) (w : World) (h : d13m.f k a0_0 a0_1 a0_2 a0_3 a0_4 a0_5 a0_6 = some r) :
 Calls Try.prog 41 #[.agg #[.int .i64 a0_0, .int .i64 a0_1, .int .i64 a0_2, .int .i64 a0_3, .int .i64 a0_4, .int .i32 a0_5, .int .i64 a0_6]] w fun e w' => e = .returned (.bool r) ∧ Below w.heap.size w w' := by
 have hu34 := Try.underlying34
 have hu32 := Try.underlying32
 have HB := Aside0.mk (Below.refl w.heap.size w)
 have H : ((d3E.f k a0_1 a0_2 a0_3 a0_4 a0_5).bind fun bt354 => (if a0_0 = 1 then (some bt354.2) else (if a0_0 = 2 then (some (a0_1 == 0 && (a0_2 == 0 && (a0_3 == 0 && (a0_4 == 0 && (a0_5 == 0)))))) else (if a0_0 = 3 then (if bt354.2 = true then (if a0_1 ≥ 36 then (if a0_1 ≤ 41 then (some (a0_5 == 0)) else (some false)) else (some false)) else (some false)) else (if a0_0 = 4 then (if bt354.2 = true then (if a0_1 = 44 then (some (a0_5 == 0)) else (some false)) else (some false)) else (if a0_0 = 5 then (if a0_1 = 0 then (if a0_3 = 0 then (if a0_4 = 0 then (if a0_2 ≥ 1 then (some (decide (a0_2 ≤ 31))) else (some false)) else (some false)) else (some false)) else (some false)) else (some false))))))) = some r := h
 clear h
 replace H := Option.bind_eq_some_iff.mp H
 obtain ⟨⟨t354, t355⟩, A20, H⟩ := H
 replace H : (if a0_0 = 1 then (some t355) else (if a0_0 = 2 then (some (a0_1 == 0 && (a0_2 == 0 && (a0_3 == 0 && (a0_4 == 0 && (a0_5 == 0)))))) else (if a0_0 = 3 then (if t355 = true then (if a0_1 ≥ 36 then (if a0_1 ≤ 41 then (some (a0_5 == 0)) else (some false)) else (some false)) else (some false)) else (if a0_0 = 4 then (if t355 = true then (if a0_1 = 44 then (some (a0_5 == 0)) else (some false)) else (some false)) else (if a0_0 = 5 then (if a0_1 = 0 then (if a0_3 = 0 then (if a0_4 = 0 then (if a0_2 ≥ 1 then (some (decide (a0_2 ≤ 31))) else (some false)) else (some false)) else (some false)) else (some false)) else (some false)))))) = some r := H
 have A2 := Aside0.mk A20
 clear A20
 by_cases c3 : a0_0 = 1
 · rw [if_pos c3] at H
   have c3b0 : (a0_0 == 1) = true := beq_iff_eq.mpr c3
   have c3b1 : (a0_0 != 1) = false := bne_eq_false_iff_eq.mpr c3
   clear c3
   exact lfxRsPintleref13May0
 · rw [if_neg c3] at H
   have c3b0 : (a0_0 == 1) = false := beq_eq_false_iff_ne.mpr c3
   have c3b1 : (a0_0 != 1) = true := bne_iff_ne.mpr c3
   by_cases c12 : a0_0 = 2
   · rw [if_pos c12] at H
     have c12b0 : (a0_0 == 2) = true := beq_iff_eq.mpr c12
     have c12b1 : (a0_0 != 2) = false := bne_eq_false_iff_eq.mpr c12
     clear c12
     exact lfxRsPintleref13May0
   · rw [if_neg c12] at H
     have c12b0 : (a0_0 == 2) = false := beq_eq_false_iff_ne.mpr c12
     have c12b1 : (a0_0 != 2) = true := bne_iff_ne.mpr c12
     by_cases c21 : a0_0 = 3
     · rw [if_pos c21] at H
       have c21b0 : (a0_0 == 3) = true := beq_iff_eq.mpr c21
       have c21b1 : (a0_0 != 3) = false := bne_eq_false_iff_eq.mpr c21
       clear c21
       by_cases c22 : t355 = true
       · subst c22
         have H1 : (if a0_1 ≥ 36 then (if a0_1 ≤ 41 then (some (a0_5 == 0)) else (some false)) else (some false)) = some r := by rw [if_pos rfl] at H; exact H
         clear H
         have H := H1
         clear H1
         by_cases c23 : a0_1 ≥ 36
         · rw [if_pos c23] at H
           have c23b0 : decide (36 ≤ a0_1) = true := decide_eq_true c23
           clear c23
           by_cases c24 : a0_1 ≤ 41
           · rw [if_pos c24] at H
             have c24b0 : decide (a0_1 ≤ 41) = true := decide_eq_true c24
             clear c24
             exact lfxRsPintleref13May1
           · rw [if_neg c24] at H
             have c24b0 : decide (a0_1 ≤ 41) = false := decide_eq_false c24
             clear c24
             exact lfxRsPintleref13May1
         · rw [if_neg c23] at H
           have c23b0 : decide (36 ≤ a0_1) = false := decide_eq_false c23
           clear c23
           exact lfxRsPintleref13May1
       · replace c22 := Bool.eq_false_iff.mpr c22
         subst c22
         exact lfxRsPintleref13May2
     · rw [if_neg c21] at H
       have c21b0 : (a0_0 == 3) = false := beq_eq_false_iff_ne.mpr c21
       have c21b1 : (a0_0 != 3) = true := bne_iff_ne.mpr c21
       by_cases c57 : a0_0 = 4
       · rw [if_pos c57] at H
         have c57b0 : (a0_0 == 4) = true := beq_iff_eq.mpr c57
         have c57b1 : (a0_0 != 4) = false := bne_eq_false_iff_eq.mpr c57
         clear c57
         by_cases c58 : t355 = true
         · subst c58
           have H1 : (if a0_1 = 44 then (some (a0_5 == 0)) else (some false)) = some r := by rw [if_pos rfl] at H; exact H
           clear H
           have H := H1
           clear H1
           by_cases c59 : a0_1 = 44
           · rw [if_pos c59] at H
             have c59b0 : (a0_1 == 44) = true := beq_iff_eq.mpr c59
             have c59b1 : (a0_1 != 44) = false := bne_eq_false_iff_eq.mpr c59
             clear c59
             exact lfxRsPintleref13May1
           · rw [if_neg c59] at H
             have c59b0 : (a0_1 == 44) = false := beq_eq_false_iff_ne.mpr c59
             have c59b1 : (a0_1 != 44) = true := bne_iff_ne.mpr c59
             exact lfxRsPintleref13May1
         · replace c58 := Bool.eq_false_iff.mpr c58
           subst c58
           exact lfxRsPintleref13May2
       · rw [if_neg c57] at H
         have c57b0 : (a0_0 == 4) = false := beq_eq_false_iff_ne.mpr c57
         have c57b1 : (a0_0 != 4) = true := bne_iff_ne.mpr c57
         by_cases c84 : a0_0 = 5
         · rw [if_pos c84] at H
           have c84b0 : (a0_0 == 5) = true := beq_iff_eq.mpr c84
           have c84b1 : (a0_0 != 5) = false := bne_eq_false_iff_eq.mpr c84
           clear c84
           by_cases c85 : a0_1 = 0
           · rw [if_pos c85] at H
             have c85b0 : (a0_1 == 0) = true := beq_iff_eq.mpr c85
             have c85b1 : (a0_1 != 0) = false := bne_eq_false_iff_eq.mpr c85
             clear c85
             by_cases c86 : a0_3 = 0
             · rw [if_pos c86] at H
               have c86b0 : (a0_3 == 0) = true := beq_iff_eq.mpr c86
               have c86b1 : (a0_3 != 0) = false := bne_eq_false_iff_eq.mpr c86
               clear c86
               by_cases c87 : a0_4 = 0
               · rw [if_pos c87] at H
                 have c87b0 : (a0_4 == 0) = true := beq_iff_eq.mpr c87
                 have c87b1 : (a0_4 != 0) = false := bne_eq_false_iff_eq.mpr c87
                 clear c87
                 by_cases c88 : a0_2 ≥ 1
                 · rw [if_pos c88] at H
                   have c88b0 : decide (1 ≤ a0_2) = true := decide_eq_true c88
                   clear c88
                   exact lfxRsPintleref13May0
                 · rw [if_neg c88] at H
                   have c88b0 : decide (1 ≤ a0_2) = false := decide_eq_false c88
                   clear c88
                   exact lfxRsPintleref13May0
               · rw [if_neg c87] at H
                 have c87b0 : (a0_4 == 0) = false := beq_eq_false_iff_ne.mpr c87
                 have c87b1 : (a0_4 != 0) = true := bne_iff_ne.mpr c87
                 exact lfxRsPintleref13May0
             · rw [if_neg c86] at H
               have c86b0 : (a0_3 == 0) = false := beq_eq_false_iff_ne.mpr c86
               have c86b1 : (a0_3 != 0) = true := bne_iff_ne.mpr c86
               exact lfxRsPintleref13May0
           · rw [if_neg c85] at H
             have c85b0 : (a0_1 == 0) = false := beq_eq_false_iff_ne.mpr c85
             have c85b1 : (a0_1 != 0) = true := bne_iff_ne.mpr c85
             exact lfxRsPintleref13May0
         · rw [if_neg c84] at H
           have c84b0 : (a0_0 == 5) = false := beq_eq_false_iff_ne.mpr c84
           have c84b1 : (a0_0 != 5) = true := bne_iff_ne.mpr c84
           exact lfxRsPintleref13May0
end Go.Proofs.Ytihecimbhhlhaaa.PRs
