/- RsRelaxMay, RsRelaxNames, RsRelaxSize, RsRelaxWithin: texts put together. -/
import Derived.Test.YtihecimbhhlhaaaRsG1
import Derived.Test.YtihecimbhhlhaaaRsG3
import Derived.Test.YtihecimbhhlhaaaRsMc
import Derived.Test.YtihecimbhhlhaaaRsG5
section
namespace Go.Proofs.Ytihecimbhhlhaaa.PRs
open Go.RowKit Go.Proofs.YtihecimbhhlhaaaW.PrintWords Go.Proofs.YtihecimbhhlhaaaW.PrintLast Go.Proofs.YtihecimbhhlhaaaW.PrintMore
set_option linter.unusedVariables false
set_option linter.unusedSimpArgs false
attribute [local go_sem high] eqA32
/-! ### rmay: function 32 -/
def rmay.f (k : Nat) (a0_0 : Int) (a0_1 : Int) (a0_2 : Int) (a0_3 : Int) (a0_4 : Int) (a0_5 : Int) (a0_6 : Int) : Option (Bool) := if a0_0 = 1 then ((inst_Can.f k a0_1 a0_2 a0_3 a0_4 a0_5).bind fun t183 => (some t183)) else (if a0_0 = 2 then (some (a0_1 == 0 && (a0_2 == 0 && (a0_3 == 0 && (a0_4 == 0 && (a0_5 == 0)))))) else (if a0_0 = 3 then (if a0_1 ≥ 36 then (if a0_1 ≤ 41 then (if a0_5 = 0 then ((inst_Can.f k a0_1 a0_2 a0_3 a0_4 a0_5).bind fun t184 => (some t184)) else (some false)) else (some false)) else (some false)) else (if a0_0 = 4 then (if a0_1 = 44 then (if a0_5 = 0 then ((inst_Can.f k a0_1 a0_2 a0_3 a0_4 a0_5).bind fun t185 => (some t185)) else (some false)) else (some false)) else (if a0_0 = 5 then (if a0_2 > 0 then (if a0_2 < 32 then (some (a0_1 == 0 && (a0_3 == 0 && (a0_4 == 0)))) else (some false)) else (some false)) else (some false)))))
theorem lfxRsRelaxMay0 {P : Prop} (h : P := by
 obtain rfl := Option.some.inj H
 go_enter Try.func32, Try.ntmps32
 go_wp2_with (first | ((with_reducible refine gate_dst (N := 1) rfl ?_); refine box_event ?hg (N := 1) ?hd (cs := #[.int .i64 a0_0, .int .i64 a0_1, .int .i64 a0_2, .int .i64 a0_3, .int .i64 a0_4, .int .i32 a0_5, .int .i64 a0_6]) (t := 34) ?hr ?_; (case hd => rfl); (case hg => rfl); (case hr => exact m_14); intro gb_0 hg w_1 hbox hb; have n_2 := Aside0.mk (below_step (m_0) hb); have n_3 := Aside0.mk (hbox); have n_4 := Aside0.mk ((m_21 : w.heap.size ≤ gb_0)); have n_5 := Aside0.mk ((m_21 : w.heap.size ≤ gb_0)); clear HB; have HB := n_2; have BK_6 := n_3; have GW_7 := n_4; have GE_8 := n_5; clear n_2 n_3 n_4 n_5; clear hb hbox hg; obtain ⟨hcz_9, hcz_10, hcz_11, hcz_12, hcz_13, hcz_14, hcz_15, hfz_16, hfz_17, hfz_18, hfz_19, hfz_20, hfz_21, hfz_22⟩ := cz7 (w := w_1) BK_6.out))
 go_ret
 exact ⟨m_3, m_18⟩) : P := h
theorem lfxRsRelaxMay1 {P : Prop} (h : P := by
 obtain rfl := Option.some.inj H
 go_enter Try.func32, Try.ntmps32
 go_wp2_with (first | ((with_reducible refine gate_dst (N := 1) rfl ?_); refine box_event ?hg (N := 1) ?hd (cs := #[.int .i64 a0_0, .int .i64 a0_1, .int .i64 a0_2, .int .i64 a0_3, .int .i64 a0_4, .int .i32 a0_5, .int .i64 a0_6]) (t := 34) ?hr ?_; (case hd => rfl); (case hg => rfl); (case hr => exact m_14); intro gb_0 hg w_1 hbox hb; have n_2 := Aside0.mk (below_step (m_0) hb); have n_3 := Aside0.mk (hbox); have n_4 := Aside0.mk ((m_21 : w.heap.size ≤ gb_0)); have n_5 := Aside0.mk ((m_21 : w.heap.size ≤ gb_0)); clear HB; have HB := n_2; have BK_6 := n_3; have GW_7 := n_4; have GE_8 := n_5; clear n_2 n_3 n_4 n_5; clear hb hbox hg; obtain ⟨hcz_9, hcz_10, hcz_11, hcz_12, hcz_13, hcz_14, hcz_15, hfz_16, hfz_17, hfz_18, hfz_19, hfz_20, hfz_21, hfz_22⟩ := cz7 (w := w_1) BK_6.out) | ((with_reducible refine gate_dst (N := 3) rfl ?_); refine box_event ?hg (N := 3) ?hd (cs := #[.int .i64 0, .int .i64 0, .int .i64 0, .int .i64 0, .int .i32 0]) (t := 32) ?hr ?_; (case hd => rfl); (case hg => rfl); (case hr => exact m_14); intro gb_23 hg w_24 hbox hb; have n_2 := Aside0.mk (blk_below (g := gb_0) (o := .cells #[.int .i64 a0_0, .int .i64 a0_1, .int .i64 a0_2, .int .i64 a0_3, .int .i64 a0_4, .int .i32 a0_5, .int .i64 a0_6] 34 (0, 0)) (m_32) hb); have n_3 := Aside0.mk (below_step (m_18) hb); have n_4 := Aside0.mk (hbox); have n_5 := Aside0.mk ((by rw [hg]; exact (below_size (m_18)) : w.heap.size ≤ gb_23)); have n_25 := Aside0.mk ((by rw [hg]; exact (below_size (m_18)) : w.heap.size ≤ gb_23)); have n_26 := Aside0.mk ((m_53 : gb_0 ≠ gb_23)); have n_27 := Aside0.mk ((m_54 : gb_23 ≠ gb_0)); clear BK_6; clear HB; have BK_6 := n_2; have HB := n_3; have BK_28 := n_4; have GW_29 := n_5; have GE_30 := n_25; have NB_31 := n_26; have NB_32 := n_27; clear n_2 n_3 n_4 n_5 n_25 n_26 n_27; clear hb hbox hg; have hnb_33 := NB_32.out; have hnc_34 := NB_31.out; obtain ⟨hcz_35, hcz_36, hcz_37, hcz_38, hcz_39, hfz_40, hfz_41, hfz_42, hfz_43, hfz_44⟩ := cz5 (w := w_24) BK_28.out))
 go_ret
 exact ⟨m_3, by repeat (first | (with_reducible first | exact HB.out | apply below_alloc | apply pw_below_drewN | apply below_drew1 | refine below_set ?_ GE_8.out | refine below_set ?_ GE_30.out) | exact HB.out)⟩) : P := h
theorem lfxRsRelaxMay2 {P : Prop} (h : P := by
 replace H := Option.bind_eq_some_iff.mp H
 obtain ⟨t_0, A_1, H⟩ := H
 replace H : (some t_0) = some r := H
 have A_2 := Aside0.mk A_1
 clear A_1
 obtain rfl := Option.some.inj H
 go_enter Try.func32, Try.ntmps32
 go_wp2_with (first | ((with_reducible refine gate_dst (N := 1) rfl ?_); refine box_event ?hg (N := 1) ?hd (cs := #[.int .i64 a0_0, .int .i64 a0_1, .int .i64 a0_2, .int .i64 a0_3, .int .i64 a0_4, .int .i32 a0_5, .int .i64 a0_6]) (t := 34) ?hr ?_; (case hd => rfl); (case hg => rfl); (case hr => exact m_14); intro gb_3 hg w_4 hbox hb; have n_5 := Aside0.mk (below_step (m_0) hb); have n_6 := Aside0.mk (hbox); have n_7 := Aside0.mk ((m_21 : w.heap.size ≤ gb_3)); have n_8 := Aside0.mk ((m_21 : w.heap.size ≤ gb_3)); clear HB; have HB := n_5; have BK_9 := n_6; have GW_10 := n_7; have GE_11 := n_8; clear n_5 n_6 n_7 n_8; clear hb hbox hg; obtain ⟨hcz_12, hcz_13, hcz_14, hcz_15, hcz_16, hcz_17, hcz_18, hfz_19, hfz_20, hfz_21, hfz_22, hfz_23, hfz_24, hfz_25⟩ := cz7 (w := w_4) BK_9.out) | (go_at_call 45; (with_reducible refine (inst_Can.calls k a0_1 a0_2 a0_3 a0_4 a0_5 t_0 _ A_2.out).mono ?_); rintro e w_26 ⟨rfl, hb⟩; have n_5 := Aside0.mk (blk_below (g := gb_3) (o := .cells #[.int .i64 a0_0, .int .i64 a0_1, .int .i64 a0_2, .int .i64 a0_3, .int .i64 a0_4, .int .i32 a0_5, .int .i64 a0_6] 34 (0, 0)) (by (with_reducible repeat (first | refine blk_drewN ?_ _ | refine blk_drew ?_ | refine blk_alloc ?_ _)); exact BK_9.out) hb); have n_6 := Aside0.mk (below_step (by repeat (first | (with_reducible first | exact HB.out | apply below_alloc | apply pw_below_drewN | apply below_drew1 | refine below_set ?_ GE_11.out) | exact HB.out)) hb); clear BK_9; clear HB; have BK_9 := n_5; have HB := n_6; clear n_5 n_6; (try clear hb); (try clear hb2); (try clear hk); (try clear hi)))
 go_ret
 exact ⟨m_3, by repeat (first | (with_reducible first | exact HB.out | apply below_alloc | apply pw_below_drewN | apply below_drew1 | refine below_set ?_ GE_11.out) | exact HB.out)⟩) : P := h
set_option maxHeartbeats 8000000 in
set_option maxRecDepth 100000 in
theorem rmay.calls (k : Nat) (a0_0 : Int) (a0_1 : Int) (a0_2 : Int) (a0_3 : Int) (a0_4 : Int) (a0_5 : Int) (a0_6 : Int) (r : Bool) (w : World) (h : rmay.f k a0_0 a0_1 a0_2 a0_3 a0_4 a0_5 a0_6 = some r) :
 Calls Try.prog 32 #[.agg #[.int .i64 a0_0, .int .i64 a0_1, .int .i64 a0_2, .int .i64 a0_3, .int .i64 a0_4, .int .i32 a0_5, .int .i64 a0_6]] w fun e w' => e = .returned (.bool r) ∧ Below w.heap.size w w' := by
 have hu34 := Try.underlying34
 have hu32 := Try.underlying32
 have HB := Aside0.mk (Below.refl w.heap.size w)
 have H : (if a0_0 = 1 then ((inst_Can.f k a0_1 a0_2 a0_3 a0_4 a0_5).bind fun t183 => (some t183)) else (if a0_0 = 2 then (some (a0_1 == 0 && (a0_2 == 0 && (a0_3 == 0 && (a0_4 == 0 && (a0_5 == 0)))))) else (if a0_0 = 3 then (if a0_1 ≥ 36 then (if a0_1 ≤ 41 then (if a0_5 = 0 then ((inst_Can.f k a0_1 a0_2 a0_3 a0_4 a0_5).bind fun t184 => (some t184)) else (some false)) else (some false)) else (some false)) else (if a0_0 = 4 then (if a0_1 = 44 then (if a0_5 = 0 then ((inst_Can.f k a0_1 a0_2 a0_3 a0_4 a0_5).bind fun t185 => (some t185)) else (some false)) else (some false)) else (if a0_0 = 5 then (if a0_2 > 0 then (if a0_2 < 32 then (some (a0_1 == 0 && (a0_3 == 0 && (a0_4 == 0)))) else (some false)) else (some false)) else (some false)))))) = some r := h
 clear h
 by_cases c2 : a0_0 = 1
 · rw [if_pos c2] at H
   have c2b0 : (a0_0 == 1) = true := beq_iff_eq.mpr c2
   have c2b1 : (a0_0 != 1) = false := bne_eq_false_iff_eq.mpr c2
   clear c2
   replace H := Option.bind_eq_some_iff.mp H
   obtain ⟨t183, A30, H⟩ := H
   replace H : (some t183) = some r := H
   have A3 := Aside0.mk A30
   clear A30
   obtain rfl := Option.some.inj H
   go_enter Try.func32, Try.ntmps32
   go_wp2_with (first | ((with_reducible refine gate_dst (N := 1) rfl ?_); refine box_event ?hg (N := 1) ?hd (cs := #[.int .i64 a0_0, .int .i64 a0_1, .int .i64 a0_2, .int .i64 a0_3, .int .i64 a0_4, .int .i32 a0_5, .int .i64 a0_6]) (t := 34) ?hr ?_; (case hd => rfl); (case hg => rfl); (case hr => exact m_14); intro gb182 hg w4 hbox hb; have n0_ := Aside0.mk (below_step (m_0) hb); have n1_ := Aside0.mk (hbox); have n2_ := Aside0.mk ((m_21 : w.heap.size ≤ gb182)); have n3_ := Aside0.mk ((m_21 : w.heap.size ≤ gb182)); clear HB; have HB := n0_; have BK182 := n1_; have GW182 := n2_; have GE182 := n3_; clear n0_ n1_ n2_ n3_; clear hb hbox hg; obtain ⟨hcz5_0, hcz5_1, hcz5_2, hcz5_3, hcz5_4, hcz5_5, hcz5_6, hfz5_0, hfz5_1, hfz5_2, hfz5_3, hfz5_4, hfz5_5, hfz5_6⟩ := cz7 (w := w4) BK182.out) | ((with_reducible refine gate_callee (f := 45) rfl ?_); refine goesL_ (some 10) rfl rfl Try.func45 (by kernel_rfl) rfl #[.agg #[.int .i64 a0_1, .int .i64 a0_2, .int .i64 a0_3, .int .i64 a0_4, .int .i32 a0_5]] rfl (m_8) ?_; (with_reducible refine (inst_Can.calls k a0_1 a0_2 a0_3 a0_4 a0_5 t183 _ A3.out).mono ?_); rintro e w6 ⟨rfl, hb⟩; refine ⟨_, rfl, ?_⟩; have n0_ := Aside0.mk (blk_below (g := gb182) (o := .cells #[.int .i64 a0_0, .int .i64 a0_1, .int .i64 a0_2, .int .i64 a0_3, .int .i64 a0_4, .int .i32 a0_5, .int .i64 a0_6] 34 (0, 0)) (by (with_reducible repeat (first | refine blk_drewN ?_ _ | refine blk_drew ?_ | refine blk_alloc ?_ _)); exact BK182.out) hb); have n1_ := Aside0.mk (below_step (by repeat (first | (with_reducible first | exact HB.out | apply below_alloc | apply pw_below_drewN | apply below_drew1 | refine below_set ?_ GE182.out) | exact HB.out)) hb); clear BK182; clear HB; have BK182 := n0_; have HB := n1_; clear n0_ n1_; (try clear hb); (try clear hb2); (try clear hk); (try clear hi)))
   go_ret
   exact ⟨m_3, by repeat (first | (with_reducible first | exact HB.out | apply below_alloc | apply pw_below_drewN | apply below_drew1 | refine below_set ?_ GE182.out) | exact HB.out)⟩
 · rw [if_neg c2] at H
   have c2b0 : (a0_0 == 1) = false := beq_eq_false_iff_ne.mpr c2
   have c2b1 : (a0_0 != 1) = true := bne_iff_ne.mpr c2
   by_cases c7 : a0_0 = 2
   · rw [if_pos c7] at H
     have c7b0 : (a0_0 == 2) = true := beq_iff_eq.mpr c7
     have c7b1 : (a0_0 != 2) = false := bne_eq_false_iff_eq.mpr c7
     clear c7
     exact lfxRsRelaxMay0
   · rw [if_neg c7] at H
     have c7b0 : (a0_0 == 2) = false := beq_eq_false_iff_ne.mpr c7
     have c7b1 : (a0_0 != 2) = true := bne_iff_ne.mpr c7
     by_cases c10 : a0_0 = 3
     · rw [if_pos c10] at H
       have c10b0 : (a0_0 == 3) = true := beq_iff_eq.mpr c10
       have c10b1 : (a0_0 != 3) = false := bne_eq_false_iff_eq.mpr c10
       clear c10
       by_cases c11 : a0_1 ≥ 36
       · rw [if_pos c11] at H
         have c11b0 : decide (36 ≤ a0_1) = true := decide_eq_true c11
         clear c11
         by_cases c12 : a0_1 ≤ 41
         · rw [if_pos c12] at H
           have c12b0 : decide (a0_1 ≤ 41) = true := decide_eq_true c12
           clear c12
           by_cases c13 : a0_5 = 0
           · rw [if_pos c13] at H
             have c13b0 : (a0_5 == 0) = true := beq_iff_eq.mpr c13
             have c13b1 : (a0_5 != 0) = false := bne_eq_false_iff_eq.mpr c13
             clear c13
             exact lfxRsRelaxMay2
           · rw [if_neg c13] at H
             have c13b0 : (a0_5 == 0) = false := beq_eq_false_iff_ne.mpr c13
             have c13b1 : (a0_5 != 0) = true := bne_iff_ne.mpr c13
             exact lfxRsRelaxMay0
         · rw [if_neg c12] at H
           have c12b0 : decide (a0_1 ≤ 41) = false := decide_eq_false c12
           clear c12
           exact lfxRsRelaxMay0
       · rw [if_neg c11] at H
         have c11b0 : decide (36 ≤ a0_1) = false := decide_eq_false c11
         clear c11
         exact lfxRsRelaxMay0
     · rw [if_neg c10] at H
       have c10b0 : (a0_0 == 3) = false := beq_eq_false_iff_ne.mpr c10
       have c10b1 : (a0_0 != 3) = true := bne_iff_ne.mpr c10
       by_cases c24 : a0_0 = 4
       · rw [if_pos c24] at H
         have c24b0 : (a0_0 == 4) = true := beq_iff_eq.mpr c24
         have c24b1 : (a0_0 != 4) = false := bne_eq_false_iff_eq.mpr c24
         clear c24
         by_cases c25 : a0_1 = 44
         · rw [if_pos c25] at H
           have c25b0 : (a0_1 == 44) = true := beq_iff_eq.mpr c25
           have c25b1 : (a0_1 != 44) = false := bne_eq_false_iff_eq.mpr c25
           clear c25
           by_cases c26 : a0_5 = 0
           · rw [if_pos c26] at H
             have c26b0 : (a0_5 == 0) = true := beq_iff_eq.mpr c26
             have c26b1 : (a0_5 != 0) = false := bne_eq_false_iff_eq.mpr c26
             clear c26
             exact lfxRsRelaxMay2
           · rw [if_neg c26] at H
             have c26b0 : (a0_5 == 0) = false := beq_eq_false_iff_ne.mpr c26
             have c26b1 : (a0_5 != 0) = true := bne_iff_ne.mpr c26
             exact lfxRsRelaxMay0
         · rw [if_neg c25] at H
           have c25b0 : (a0_1 == 44) = false := beq_eq_false_iff_ne.mpr c25
           have c25b1 : (a0_1 != 44) = true := bne_iff_ne.mpr c25
           exact lfxRsRelaxMay0
       · rw [if_neg c24] at H
         have c24b0 : (a0_0 == 4) = false := beq_eq_false_iff_ne.mpr c24
         have c24b1 : (a0_0 != 4) = true := bne_iff_ne.mpr c24
         by_cases c35 : a0_0 = 5
         · rw [if_pos c35] at H
           have c35b0 : (a0_0 == 5) = true := beq_iff_eq.mpr c35
           have c35b1 : (a0_0 != 5) = false := bne_eq_false_iff_eq.mpr c35
           clear c35
           by_cases c36 : a0_2 > 0
           · rw [if_pos c36] at H
             have c36b0 : decide (0 < a0_2) = true := decide_eq_true c36
             clear c36
             by_cases c37 : a0_2 < 32
             · rw [if_pos c37] at H
               have c37b0 : decide (a0_2 < 32) = true := decide_eq_true c37
               clear c37
               exact lfxRsRelaxMay1
             · rw [if_neg c37] at H
               have c37b0 : decide (a0_2 < 32) = false := decide_eq_false c37
               clear c37
               exact lfxRsRelaxMay1
           · rw [if_neg c36] at H
             have c36b0 : decide (0 < a0_2) = false := decide_eq_false c36
             clear c36
             exact lfxRsRelaxMay1
         · rw [if_neg c35] at H
           have c35b0 : (a0_0 == 5) = false := beq_eq_false_iff_ne.mpr c35
           have c35b1 : (a0_0 != 5) = true := bne_iff_ne.mpr c35
           exact lfxRsRelaxMay0
-- NOT PRINTED: function 33 (relax_labels)
end Go.Proofs.Ytihecimbhhlhaaa.PRs
end
section
namespace Go.Proofs.Ytihecimbhhlhaaa.PRs
open Go.RowKit Go.Proofs.YtihecimbhhlhaaaW.PrintWords Go.Proofs.YtihecimbhhlhaaaW.PrintLast Go.Proofs.YtihecimbhhlhaaaW.PrintMore
set_option linter.unusedVariables false
set_option linter.unusedSimpArgs false
attribute [local go_sem high] eqA32
/-! ### relax_names: function 34 -/
def relax_names.f (a0_0 : Int) (a0_1 : Int) (a0_2 : Int) (a0_3 : Int) (a0_4 : Int) (a0_5 : Int) (a0_6 : Int) : Option (Bool) := if a0_0 = 3 then (some true) else (some (a0_0 == 4))
theorem lfxRsRelaxNames0 {P : Prop} (h : P := by
 obtain rfl := Option.some.inj H
 go_enter Try.func34, Try.ntmps34
 go_wp2_with (first | ((with_reducible refine gate_dst (N := 1) rfl ?_); refine box_event ?hg (N := 1) ?hd (cs := #[.int .i64 a0_0, .int .i64 a0_1, .int .i64 a0_2, .int .i64 a0_3, .int .i64 a0_4, .int .i32 a0_5, .int .i64 a0_6]) (t := 34) ?hr ?_; (case hd => rfl); (case hg => rfl); (case hr => exact m_14); intro gb_0 hg w_1 hbox hb; have n_2 := Aside0.mk (below_step (m_0) hb); have n_3 := Aside0.mk (hbox); have n_4 := Aside0.mk ((m_21 : w.heap.size ≤ gb_0)); have n_5 := Aside0.mk ((m_21 : w.heap.size ≤ gb_0)); clear HB; have HB := n_2; have BK_6 := n_3; have GW_7 := n_4; have GE_8 := n_5; clear n_2 n_3 n_4 n_5; clear hb hbox hg; obtain ⟨hcz_9, hcz_10, hcz_11, hcz_12, hcz_13, hcz_14, hcz_15, hfz_16, hfz_17, hfz_18, hfz_19, hfz_20, hfz_21, hfz_22⟩ := cz7 (w := w_1) BK_6.out))
 go_ret
 exact ⟨m_3, m_18⟩) : P := h
set_option maxHeartbeats 8000000 in
set_option maxRecDepth 100000 in
theorem relax_names.calls (a0_0 : Int) (a0_1 : Int) (a0_2 : Int) (a0_3 : Int) (a0_4 : Int) (a0_5 : Int) (a0_6 : Int) (r : Bool) (w : World) (h : relax_names.f a0_0 a0_1 a0_2 a0_3 a0_4 a0_5 a0_6 = some r) :
 Calls Try.prog 34 #[.agg #[.int .i64 a0_0, .int .i64 a0_1, .int .i64 a0_2, .int .i64 a0_3, .int .i64 a0_4, .int .i32 a0_5, .int .i64 a0_6]] w fun e w' => e = .returned (.bool r) ∧ Below w.heap.size w w' := by
 have hu34 := Try.underlying34
 have HB := Aside0.mk (Below.refl w.heap.size w)
 have H : (if a0_0 = 3 then (some true) else (some (a0_0 == 4))) = some r := h
 clear h
 by_cases c2 : a0_0 = 3
 · rw [if_pos c2] at H
   have c2b0 : (a0_0 == 3) = true := beq_iff_eq.mpr c2
   have c2b1 : (a0_0 != 3) = false := bne_eq_false_iff_eq.mpr c2
   clear c2
   exact lfxRsRelaxNames0
 · rw [if_neg c2] at H
   have c2b0 : (a0_0 == 3) = false := beq_eq_false_iff_ne.mpr c2
   have c2b1 : (a0_0 != 3) = true := bne_iff_ne.mpr c2
   exact lfxRsRelaxNames0
-- NOT PRINTED: function 17 (relax_check)
end Go.Proofs.Ytihecimbhhlhaaa.PRs
end
section
namespace Go.Proofs.Ytihecimbhhlhaaa.PRs
open Go.RowKit Go.Proofs.YtihecimbhhlhaaaW.PrintWords Go.Proofs.YtihecimbhhlhaaaW.PrintLast Go.Proofs.YtihecimbhhlhaaaW.PrintMore
set_option linter.unusedVariables false
set_option linter.unusedSimpArgs false
attribute [local go_sem high] eqA32
/-! ### rsiz: function 35 -/
def rsiz.f (k : Nat) (a0_0 : Int) (a0_1 : Int) (a0_2 : Int) (a0_3 : Int) (a0_4 : Int) (a0_5 : Int) (a0_6 : Int) (a1 : Bool) : Option (Int) := if a0_0 = 2 then (some 0) else (if a0_0 = 5 then ((pSet.f k a0_2 a0_5).bind fun t203 => (some (wrap64 (4 * (t203.length : Int))))) else (if a1 = true then (some 8) else (some 4)))
theorem lfxRsRelaxSize0 {P : Prop} (h : P := by
 obtain rfl := Option.some.inj H
 go_enter Try.func35, Try.ntmps35
 go_wp2_with (first | ((with_reducible refine gate_dst (N := 2) rfl ?_); refine box_event ?hg (N := 2) ?hd (cs := #[.int .i64 a0_0, .int .i64 a0_1, .int .i64 a0_2, .int .i64 a0_3, .int .i64 a0_4, .int .i32 a0_5, .int .i64 a0_6]) (t := 34) ?hr ?_; (case hd => rfl); (case hg => rfl); (case hr => exact m_14); intro gb_0 hg w_1 hbox hb; have n_2 := Aside0.mk (below_step (m_0) hb); have n_3 := Aside0.mk (hbox); have n_4 := Aside0.mk ((m_21 : w.heap.size ≤ gb_0)); have n_5 := Aside0.mk ((m_21 : w.heap.size ≤ gb_0)); clear HB; have HB := n_2; have BK_6 := n_3; have GW_7 := n_4; have GE_8 := n_5; clear n_2 n_3 n_4 n_5; clear hb hbox hg; obtain ⟨hcz_9, hcz_10, hcz_11, hcz_12, hcz_13, hcz_14, hcz_15, hfz_16, hfz_17, hfz_18, hfz_19, hfz_20, hfz_21, hfz_22⟩ := cz7 (w := w_1) BK_6.out))
 go_ret
 exact ⟨m_3, m_18⟩) : P := h
set_option maxHeartbeats 8000000 in
set_option maxRecDepth 100000 in
theorem rsiz.calls (k : Nat) (a0_0 : Int) (a0_1 : Int) (a0_2 : Int) (a0_3 : Int) (a0_4 : Int) (a0_5 : Int) (a0_6 : Int) (a1 : Bool) (r : Int) (w : World) (h : rsiz.f k a0_0 a0_1 a0_2 a0_3 a0_4 a0_5 a0_6 a1 = some r) :
 Calls Try.prog 35 #[.agg #[.int .i64 a0_0, .int .i64 a0_1, .int .i64 a0_2, .int .i64 a0_3, .int .i64 a0_4, .int .i32 a0_5, .int .i64 a0_6], .bool a1] w fun e w' => e = .returned (.int .i64 r) ∧ Below w.heap.size w w' := by
 have hu34 := Try.underlying34
 have HB := Aside0.mk (Below.refl w.heap.size w)
 have H : (if a0_0 = 2 then (some 0) else (if a0_0 = 5 then ((pSet.f k a0_2 a0_5).bind fun t203 => (some (wrap64 (4 * (t203.length : Int))))) else (if a1 = true then (some 8) else (some 4)))) = some r := h
 clear h
 by_cases c3 : a0_0 = 2
 · rw [if_pos c3] at H
   have c3b0 : (a0_0 == 2) = true := beq_iff_eq.mpr c3
   have c3b1 : (a0_0 != 2) = false := bne_eq_false_iff_eq.mpr c3
   clear c3
   exact lfxRsRelaxSize0
 · rw [if_neg c3] at H
   have c3b0 : (a0_0 == 2) = false := beq_eq_false_iff_ne.mpr c3
   have c3b1 : (a0_0 != 2) = true := bne_iff_ne.mpr c3
   by_cases c6 : a0_0 = 5
   · rw [if_pos c6] at H
     have c6b0 : (a0_0 == 5) = true := beq_iff_eq.mpr c6
     have c6b1 : (a0_0 != 5) = false := bne_eq_false_iff_eq.mpr c6
     clear c6
     replace H := Option.bind_eq_some_iff.mp H
     obtain ⟨t203, A70, H⟩ := H
     replace H : (some (wrap64 (4 * (t203.length : Int)))) = some r := H
     have A7 := Aside0.mk A70
     clear A70
     obtain rfl := Option.some.inj H
     go_enter Try.func35, Try.ntmps35
     go_wp2_with (first | ((with_reducible refine gate_dst (N := 2) rfl ?_); refine box_event ?hg (N := 2) ?hd (cs := #[.int .i64 a0_0, .int .i64 a0_1, .int .i64 a0_2, .int .i64 a0_3, .int .i64 a0_4, .int .i32 a0_5, .int .i64 a0_6]) (t := 34) ?hr ?_; (case hd => rfl); (case hg => rfl); (case hr => exact m_14); intro gb202 hg w8 hbox hb; have n0_ := Aside0.mk (below_step (m_0) hb); have n1_ := Aside0.mk (hbox); have n2_ := Aside0.mk ((m_21 : w.heap.size ≤ gb202)); have n3_ := Aside0.mk ((m_21 : w.heap.size ≤ gb202)); clear HB; have HB := n0_; have BK202 := n1_; have GW202 := n2_; have GE202 := n3_; clear n0_ n1_ n2_ n3_; clear hb hbox hg; obtain ⟨hcz9_0, hcz9_1, hcz9_2, hcz9_3, hcz9_4, hcz9_5, hcz9_6, hfz9_0, hfz9_1, hfz9_2, hfz9_3, hfz9_4, hfz9_5, hfz9_6⟩ := cz7 (w := w8) BK202.out) | ((with_reducible refine gate_callee (f := 37) rfl ?_); refine goesL_ (some 17) rfl rfl Try.func37 (by kernel_rfl) rfl #[.int .i64 a0_2, .int .i32 a0_5] rfl (m_8) ?_; (with_reducible refine (pSet.calls k a0_2 a0_5 t203 _ A7.out).mono ?_); rintro e w10 ⟨v204, rfl, ho0, hb⟩; refine ⟨_, rfl, ?_⟩; have n0_ := Aside0.mk (Kd.R_lower ho0 (below_size (m_66))); have n1_ := Aside0.mk (blk_below (g := gb202) (o := .cells #[.int .i64 a0_0, .int .i64 a0_1, .int .i64 a0_2, .int .i64 a0_3, .int .i64 a0_4, .int .i32 a0_5, .int .i64 a0_6] 34 (0, 0)) (by (with_reducible repeat (first | refine blk_drewN ?_ _ | refine blk_drew ?_ | refine blk_alloc ?_ _)); exact BK202.out) hb); have n2_ := Aside0.mk (below_step (m_66) hb); clear BK202; clear HB; have HO205 := n0_; have BK202 := n1_; have HB := n2_; clear n0_ n1_ n2_; (try clear hb); (try clear hb2); (try clear hk); (try clear hi); (try clear ho0); obtain ⟨Ao11, co11, eo11⟩ := Kd.R_slice HO205.out; subst eo11))
     go_ret
     exact ⟨m_3, m_66⟩
   · rw [if_neg c6] at H
     have c6b0 : (a0_0 == 5) = false := beq_eq_false_iff_ne.mpr c6
     have c6b1 : (a0_0 != 5) = true := bne_iff_ne.mpr c6
     by_cases c12 : a1 = true
     · subst c12
       have H1 : (some 8) = some r := by rw [if_pos rfl] at H; exact H
       clear H
       have H := H1
       clear H1
       exact lfxRsRelaxSize0
     · replace c12 := Bool.eq_false_iff.mpr c12
       subst c12
       have H1 : (some 4) = some r := by rw [if_neg (show ¬ (false = true) by decide)] at H; exact H
       clear H
       have H := H1
       clear H1
       exact lfxRsRelaxSize0
-- NOT PRINTED: function 18 (relax_places)
end Go.Proofs.Ytihecimbhhlhaaa.PRs
end
section
namespace Go.Proofs.Ytihecimbhhlhaaa.PRs
open Go.RowKit Go.Proofs.YtihecimbhhlhaaaW.PrintWords Go.Proofs.YtihecimbhhlhaaaW.PrintLast Go.Proofs.YtihecimbhhlhaaaW.PrintMore
set_option linter.unusedVariables false
set_option linter.unusedSimpArgs false
attribute [local go_sem high] eqA32
/-! ### relax_within: function 19 -/
def relax_within.f (a0 : Int) (a1 : Int) (a2 : Int) : Option (Bool) := if a0 ≥ a1 then (some (decide (a0 ≤ a2))) else (some false)
set_option maxHeartbeats 8000000 in
set_option maxRecDepth 100000 in
theorem relax_within.calls (a0 : Int) (a1 : Int) (a2 : Int) (r : Bool) (w : World) (h : relax_within.f a0 a1 a2 = some r) :
 Calls Try.prog 19 #[.int .i64 a0, .int .i64 a1, .int .i64 a2] w fun e w' => e = .returned (.bool r) ∧ Drawn0 w w' := by
 have H : (if a0 ≥ a1 then (some (decide (a0 ≤ a2))) else (some false)) = some r := h
 clear h
 by_cases c4 : a0 ≥ a1
 · rw [if_pos c4] at H
   have c4b0 : decide (a1 ≤ a0) = true := decide_eq_true c4
   clear c4
   obtain rfl := Option.some.inj H
   go_enter Try.func19, Try.ntmps19
   go_wp2
   go_ret
   exact ⟨m_5, m_19⟩
 · rw [if_neg c4] at H
   have c4b0 : decide (a1 ≤ a0) = false := decide_eq_false c4
   clear c4
   obtain rfl := Option.some.inj H
   go_enter Try.func19, Try.ntmps19
   go_wp2
   go_ret
   exact ⟨m_5, m_19⟩
-- NOT PRINTED: function 20 (relax_jumps)
-- NOT PRINTED: function 8 (relax_Layout)
end Go.Proofs.Ytihecimbhhlhaaa.PRs
end
