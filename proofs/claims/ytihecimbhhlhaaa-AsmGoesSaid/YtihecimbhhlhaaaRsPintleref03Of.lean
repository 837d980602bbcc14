/- d3O: a plain function with the same answers as the program's, and the proof of it, as a program has written them. -/
import Derived.Test.YtihecimbhhlhaaaRsG1
import Derived.Test.YtihecimbhhlhaaaRsMc
namespace Go.Proofs.Ytihecimbhhlhaaa.PRs
open Go.RowKit Go.Proofs.YtihecimbhhlhaaaW.PrintWords Go.Proofs.YtihecimbhhlhaaaW.PrintLast Go.Proofs.YtihecimbhhlhaaaW.PrintMore
set_option linter.unusedVariables false
set_option linter.unusedSimpArgs false
/-! ### d3O: function 29 -/
def d3O.j0 : Nat → Int → Bool → Option (Int × Int × Int × Int × Bool × Bool × Bool × Bool)
 | 0, _, _ => none
 | k + 1, x0, x17 => if x17 = true then (some (0, 0, 0, 0, false, false, false, false)) else (if x0 ≤ 18 then ((some (([0, 0, 1, 2, 3, 4, 5, 5, 6, 7, 0, 1, 2, 3, 4, 5, 6, 7] : List Int) : List Int)).bind fun y281 => (if x0 > 10 then (if x0 = 2 then (if 0 ≤ (wrap64 (x0 - 1)) then (if (wrap64 (x0 - 1)) < (y281.length : Int) then (some (51, rd y281 (wrap64 (x0 - 1)), 32, 0, true, true, true, true)) else (none)) else (none)) else (if x0 = 8 then (if 0 ≤ (wrap64 (x0 - 1)) then (if (wrap64 (x0 - 1)) < (y281.length : Int) then (some (51, rd y281 (wrap64 (x0 - 1)), 32, 0, true, true, true, true)) else (none)) else (none)) else (if 0 ≤ (wrap64 (x0 - 1)) then (if (wrap64 (x0 - 1)) < (y281.length : Int) then (some (51, rd y281 (wrap64 (x0 - 1)), 1, 0, true, true, true, true)) else (none)) else (none)))) else (if x0 = 2 then (if 0 ≤ (wrap64 (x0 - 1)) then (if (wrap64 (x0 - 1)) < (y281.length : Int) then (some (51, rd y281 (wrap64 (x0 - 1)), 32, 0, true, true, true, true)) else (none)) else (none)) else (if x0 = 8 then (if 0 ≤ (wrap64 (x0 - 1)) then (if (wrap64 (x0 - 1)) < (y281.length : Int) then (some (51, rd y281 (wrap64 (x0 - 1)), 32, 0, true, true, true, true)) else (none)) else (none)) else (if 0 ≤ (wrap64 (x0 - 1)) then (if (wrap64 (x0 - 1)) < (y281.length : Int) then (some (51, rd y281 (wrap64 (x0 - 1)), 0, 0, true, true, true, true)) else (none)) else (none)))))) else (if x0 ≤ 27 then ((some (([0, 2, 3, 4, 6, 7, 1, 5, 5] : List Int) : List Int)).bind fun y290 => (if x0 ≥ 25 then (if x0 = 27 then (if 0 ≤ (wrap64 (x0 - 19)) then (if (wrap64 (x0 - 19)) < (y290.length : Int) then (some (19, rd y290 (wrap64 (x0 - 19)), 32, 6, true, true, false, true)) else (none)) else (none)) else (if 0 ≤ (wrap64 (x0 - 19)) then (if (wrap64 (x0 - 19)) < (y290.length : Int) then (some (19, rd y290 (wrap64 (x0 - 19)), 0, 6, true, true, false, true)) else (none)) else (none))) else (if x0 = 27 then (if 0 ≤ (wrap64 (x0 - 19)) then (if (wrap64 (x0 - 19)) < (y290.length : Int) then (some (19, rd y290 (wrap64 (x0 - 19)), 32, 1, true, true, false, true)) else (none)) else (none)) else (if 0 ≤ (wrap64 (x0 - 19)) then (if (wrap64 (x0 - 19)) < (y290.length : Int) then (some (19, rd y290 (wrap64 (x0 - 19)), 0, 1, true, true, false, true)) else (none)) else (none))))) else (if x0 ≤ 32 then ((some (([0, 1, 2, 4, 5] : List Int) : List Int)).bind fun y297 => (if 0 ≤ (wrap64 (x0 - 28)) then (if (wrap64 (x0 - 28)) < (y297.length : Int) then (some (3, rd y297 (wrap64 (x0 - 28)), 0, 1, true, true, false, true)) else (none)) else (none))) else (if x0 ≤ 35 then (some (35, (wrap64 (x0 - 33)) % 4294967296, 0, 2, false, true, true, true)) else (if x0 ≤ 41 then ((some (([0, 1, 4, 5, 6, 7] : List Int) : List Int)).bind fun y301 => (if 0 ≤ (wrap64 (x0 - 36)) then (if (wrap64 (x0 - 36)) < (y301.length : Int) then (some (99, rd y301 (wrap64 (x0 - 36)), 0, 3, false, true, true, true)) else (none)) else (none))) else ((some (([(⟨55, 0, 0, 4, true, false, false⟩ : S69), (⟨23, 0, 0, 4, true, false, false⟩ : S69), (⟨111, 0, 0, 5, true, false, false⟩ : S69), (⟨103, 0, 0, 1, true, true, false⟩ : S69), (⟨15, 0, 0, 1, false, false, false⟩ : S69)] : List (S69)) : List (S69))).bind fun y305 => (if 0 ≤ (wrap64 (x0 - 42)) then (if (wrap64 (x0 - 42)) < (y305.length : Int) then (some ((rd_T69 y305 (wrap64 (x0 - 42))).f0, (rd_T69 y305 (wrap64 (x0 - 42))).f1, (rd_T69 y305 (wrap64 (x0 - 42))).f2, (rd_T69 y305 (wrap64 (x0 - 42))).f3, (rd_T69 y305 (wrap64 (x0 - 42))).f4, (rd_T69 y305 (wrap64 (x0 - 42))).f5, (rd_T69 y305 (wrap64 (x0 - 42))).f6, true)) else (none)) else (none))))))))
def d3O.f (k : Nat) (a0 : Int) : Option (Int × Int × Int × Int × Bool × Bool × Bool × Bool) := if a0 < 1 then (d3O.j0 k a0 true) else (d3O.j0 k a0 (decide (a0 > 46)))
theorem d3O.mono_l : ∀ k, (∀ y0 y1, LeO (d3O.j0 k y0 y1) (d3O.j0 (k + 1) y0 y1))
 | 0 => fun _ _ r h => by simp [d3O.j0] at h
 | k + 1 => by
  have ih0 := d3O.mono_l k
  · intro y0 y1
    unfold d3O.j0
    repeat' first
    | (with_reducible exact ih0 _ _)
    | (with_reducible exact LeO.refl _)
    | (with_reducible exact LeO.none _)
    | (with_reducible refine LeO.ite ?_ ?_)
    | (with_reducible refine LeO.bind ?_ (fun _ => ?_))
    | exact ih0 _ _
    | exact LeO.none _
    | refine LeO.ite ?_ ?_
    | refine LeO.bind ?_ (fun _ => ?_)
theorem d3O.mono : ∀ a0 k, LeO (d3O.f k a0) (d3O.f (k + 1) a0) := by
 intro a0 k
 have ih0 := d3O.mono_l k
 unfold d3O.f
 repeat' first
  | (with_reducible exact ih0 _ _)
  | (with_reducible exact LeO.refl _)
  | (with_reducible exact LeO.none _)
  | (with_reducible refine LeO.ite ?_ ?_)
  | (with_reducible refine LeO.bind ?_ (fun _ => ?_))
  | exact ih0 _ _
  | exact LeO.none _
  | refine LeO.ite ?_ ?_
  | refine LeO.bind ?_ (fun _ => ?_)
set_option maxHeartbeats 8000000 in
set_option maxRecDepth 100000 in
theorem d3O.calls (k : Nat) (a0 : Int) (r1 : Int) (r2 : Int) (r3 : Int) (r4 : Int) (r5 : Bool) (r6 : Bool) (r7 : Bool) (r8 : Bool) (w : World) (h : d3O.f k a0 = some (r1, r2, r3, r4, r5, r6, r7, r8)) :
 Calls Try.prog 29 #[.int .i64 a0] w fun e w' => e = .returned (.tuple #[.agg #[.int .u32 r1, .int .u32 r2, .int .u32 r3, .int .i64 r4, .bool r5, .bool r6, .bool r7], .bool r8]) ∧ Below w.heap.size w w' := by
 have hu69 := Try.underlying69
 have HB := Aside0.mk (Below.refl w.heap.size w)
 have H : (if a0 < 1 then (d3O.j0 k a0 true) else (d3O.j0 k a0 (decide (a0 > 46)))) = some (r1, r2, r3, r4, r5, r6, r7, r8) := h
 clear h
 have HC2 := Aside0.mk H
 clear H
 go_enter Try.func29, Try.ntmps29
 go_upto_region 1 with (first | ((with_reducible refine gate_dst (N := 2) rfl ?_); refine box_event ?hg (N := 2) ?hd (cs := #[.int .u32 0, .int .u32 0, .int .u32 0, .int .i64 0, .bool false, .bool false, .bool false]) (t := 69) ?hr ?_; (case hd => rfl); (case hg => rfl); (case hr => exact m_14); intro gb280 hg w3 hbox hb; have n0_ := Aside0.mk (below_step (m_0) hb); have n1_ := Aside0.mk (hbox); have n2_ := Aside0.mk ((m_21 : w.heap.size ≤ gb280)); have n3_ := Aside0.mk ((m_21 : w.heap.size ≤ gb280)); clear HB; have HB := n0_; have BK280 := n1_; have GW280 := n2_; have GE280 := n3_; clear n0_ n1_ n2_ n3_; clear hb hbox hg))
 (try simp only [Act.put, List.setIfInBounds_toArray, List.set_cons_zero, List.set_cons_succ])
 go_cut [17] (fun v17 wc => ∃ (kq : Nat) (x17_1 : Bool), v17 = .bool x17_1 ∧ Aside0 (d3O.j0 kq a0 x17_1 = some (r1, r2, r3, r4, r5, r6, r7, r8)) ∧ Aside0 (kq ≤ k) ∧ Aside0 (wc.heap[gb280]? = some (.cells #[.int .u32 0, .int .u32 0, .int .u32 0, .int .i64 0, .bool false, .bool false, .bool false] 69 (0, 0))) ∧ Aside0 (Below w.heap.size w wc))
 case first =>
  have H := HC2.out
  clear HC2
  by_cases c4 : a0 < 1
  · rw [if_pos c4] at H
    have c4b0 : decide (a0 < 1) = true := decide_eq_true c4
    clear c4
    (first | rw [c4b0] | (simp only [i64_w, i32_w]; rw [c4b0]) | skip)
    have H' := Aside0.mk H
    clear H
    go_wp2
    go_meet
    case rel => exact ⟨_, (true), (m_5), H', ⟨m_45⟩, ⟨m_26⟩, ⟨m_2⟩⟩
  · rw [if_neg c4] at H
    have c4b0 : decide (a0 < 1) = false := decide_eq_false c4
    clear c4
    (first | rw [c4b0] | (simp only [i64_w, i32_w]; rw [c4b0]) | skip)
    have H' := Aside0.mk H
    clear H
    go_wp2
    go_meet
    case rel => exact ⟨_, (decide (a0 > 46)), (m_5), H', ⟨m_45⟩, ⟨m_26⟩, ⟨m_2⟩⟩
 case rest =>
  clear HC2
  obtain ⟨kq, x17_1, rfl, HA, HJ1, BK280, HB⟩ := hcut
  cases kq with
  | zero => exact absurd HA.out (by simp [d3O.j0])
  | succ kj1 =>
   have H := HA.out
   clear HA
   simp only [d3O.j0] at H
   by_cases c5 : x17_1 = true
   · subst c5
     have H1 : (some (0, 0, 0, 0, false, false, false, false)) = some (r1, r2, r3, r4, r5, r6, r7, r8) := by rw [if_pos rfl] at H; exact H
     clear H
     have H := H1
     clear H1
     simp only [Option.some.injEq, Prod.mk.injEq] at H
     obtain ⟨rfl, rfl, rfl, rfl, rfl, rfl, rfl, rfl⟩ := H
     obtain ⟨hcz6_0, hcz6_1, hcz6_2, hcz6_3, hcz6_4, hcz6_5, hcz6_6, hfz6_0, hfz6_1, hfz6_2, hfz6_3, hfz6_4, hfz6_5, hfz6_6⟩ := cz7 (w := wc) BK280.out
     go_wp2
     refine bodyPost_ret (results_ct rfl _ _ gb280 69 #[.int .u32 0, .int .u32 0, .int .u32 0, .int .i64 0, .bool false, .bool false, .bool false] (0, 0) _ rfl (q_1) Try.underlying69 rfl (by kernel_rfl)) rfl ?_
     exact ⟨m_3, m_2⟩
   · replace c5 := Bool.eq_false_iff.mpr c5
     subst c5
     have H1 : (if a0 ≤ 18 then ((some (([0, 0, 1, 2, 3, 4, 5, 5, 6, 7, 0, 1, 2, 3, 4, 5, 6, 7] : List Int) : List Int)).bind fun y281 => (if a0 > 10 then (if a0 = 2 then (if 0 ≤ (wrap64 (a0 - 1)) then (if (wrap64 (a0 - 1)) < (y281.length : Int) then (some (51, rd y281 (wrap64 (a0 - 1)), 32, 0, true, true, true, true)) else (none)) else (none)) else (if a0 = 8 then (if 0 ≤ (wrap64 (a0 - 1)) then (if (wrap64 (a0 - 1)) < (y281.length : Int) then (some (51, rd y281 (wrap64 (a0 - 1)), 32, 0, true, true, true, true)) else (none)) else (none)) else (if 0 ≤ (wrap64 (a0 - 1)) then (if (wrap64 (a0 - 1)) < (y281.length : Int) then (some (51, rd y281 (wrap64 (a0 - 1)), 1, 0, true, true, true, true)) else (none)) else (none)))) else (if a0 = 2 then (if 0 ≤ (wrap64 (a0 - 1)) then (if (wrap64 (a0 - 1)) < (y281.length : Int) then (some (51, rd y281 (wrap64 (a0 - 1)), 32, 0, true, true, true, true)) else (none)) else (none)) else (if a0 = 8 then (if 0 ≤ (wrap64 (a0 - 1)) then (if (wrap64 (a0 - 1)) < (y281.length : Int) then (some (51, rd y281 (wrap64 (a0 - 1)), 32, 0, true, true, true, true)) else (none)) else (none)) else (if 0 ≤ (wrap64 (a0 - 1)) then (if (wrap64 (a0 - 1)) < (y281.length : Int) then (some (51, rd y281 (wrap64 (a0 - 1)), 0, 0, true, true, true, true)) else (none)) else (none)))))) else (if a0 ≤ 27 then ((some (([0, 2, 3, 4, 6, 7, 1, 5, 5] : List Int) : List Int)).bind fun y290 => (if a0 ≥ 25 then (if a0 = 27 then (if 0 ≤ (wrap64 (a0 - 19)) then (if (wrap64 (a0 - 19)) < (y290.length : Int) then (some (19, rd y290 (wrap64 (a0 - 19)), 32, 6, true, true, false, true)) else (none)) else (none)) else (if 0 ≤ (wrap64 (a0 - 19)) then (if (wrap64 (a0 - 19)) < (y290.length : Int) then (some (19, rd y290 (wrap64 (a0 - 19)), 0, 6, true, true, false, true)) else (none)) else (none))) else (if a0 = 27 then (if 0 ≤ (wrap64 (a0 - 19)) then (if (wrap64 (a0 - 19)) < (y290.length : Int) then (some (19, rd y290 (wrap64 (a0 - 19)), 32, 1, true, true, false, true)) else (none)) else (none)) else (if 0 ≤ (wrap64 (a0 - 19)) then (if (wrap64 (a0 - 19)) < (y290.length : Int) then (some (19, rd y290 (wrap64 (a0 - 19)), 0, 1, true, true, false, true)) else (none)) else (none))))) else (if a0 ≤ 32 then ((some (([0, 1, 2, 4, 5] : List Int) : List Int)).bind fun y297 => (if 0 ≤ (wrap64 (a0 - 28)) then (if (wrap64 (a0 - 28)) < (y297.length : Int) then (some (3, rd y297 (wrap64 (a0 - 28)), 0, 1, true, true, false, true)) else (none)) else (none))) else (if a0 ≤ 35 then (some (35, (wrap64 (a0 - 33)) % 4294967296, 0, 2, false, true, true, true)) else (if a0 ≤ 41 then ((some (([0, 1, 4, 5, 6, 7] : List Int) : List Int)).bind fun y301 => (if 0 ≤ (wrap64 (a0 - 36)) then (if (wrap64 (a0 - 36)) < (y301.length : Int) then (some (99, rd y301 (wrap64 (a0 - 36)), 0, 3, false, true, true, true)) else (none)) else (none))) else ((some (([(⟨55, 0, 0, 4, true, false, false⟩ : S69), (⟨23, 0, 0, 4, true, false, false⟩ : S69), (⟨111, 0, 0, 5, true, false, false⟩ : S69), (⟨103, 0, 0, 1, true, true, false⟩ : S69), (⟨15, 0, 0, 1, false, false, false⟩ : S69)] : List (S69)) : List (S69))).bind fun y305 => (if 0 ≤ (wrap64 (a0 - 42)) then (if (wrap64 (a0 - 42)) < (y305.length : Int) then (some ((rd_T69 y305 (wrap64 (a0 - 42))).f0, (rd_T69 y305 (wrap64 (a0 - 42))).f1, (rd_T69 y305 (wrap64 (a0 - 42))).f2, (rd_T69 y305 (wrap64 (a0 - 42))).f3, (rd_T69 y305 (wrap64 (a0 - 42))).f4, (rd_T69 y305 (wrap64 (a0 - 42))).f5, (rd_T69 y305 (wrap64 (a0 - 42))).f6, true)) else (none)) else (none)))))))) = some (r1, r2, r3, r4, r5, r6, r7, r8) := by rw [if_neg (show ¬ (false = true) by decide)] at H; exact H
     clear H
     have H := H1
     clear H1
     by_cases c7 : a0 ≤ 18
     · rw [if_pos c7] at H
       have c7b0 : decide (a0 ≤ 18) = true := decide_eq_true c7
       clear c7
       obtain ⟨y281, hy_⟩ : ∃ y_ : List Int, y_ = (([0, 0, 1, 2, 3, 4, 5, 5, 6, 7, 0, 1, 2, 3, 4, 5, 6, 7] : List Int)) := ⟨_, rfl⟩
       replace H : (if a0 > 10 then (if a0 = 2 then (if 0 ≤ (wrap64 (a0 - 1)) then (if (wrap64 (a0 - 1)) < (y281.length : Int) then (some (51, rd y281 (wrap64 (a0 - 1)), 32, 0, true, true, true, true)) else (none)) else (none)) else (if a0 = 8 then (if 0 ≤ (wrap64 (a0 - 1)) then (if (wrap64 (a0 - 1)) < (y281.length : Int) then (some (51, rd y281 (wrap64 (a0 - 1)), 32, 0, true, true, true, true)) else (none)) else (none)) else (if 0 ≤ (wrap64 (a0 - 1)) then (if (wrap64 (a0 - 1)) < (y281.length : Int) then (some (51, rd y281 (wrap64 (a0 - 1)), 1, 0, true, true, true, true)) else (none)) else (none)))) else (if a0 = 2 then (if 0 ≤ (wrap64 (a0 - 1)) then (if (wrap64 (a0 - 1)) < (y281.length : Int) then (some (51, rd y281 (wrap64 (a0 - 1)), 32, 0, true, true, true, true)) else (none)) else (none)) else (if a0 = 8 then (if 0 ≤ (wrap64 (a0 - 1)) then (if (wrap64 (a0 - 1)) < (y281.length : Int) then (some (51, rd y281 (wrap64 (a0 - 1)), 32, 0, true, true, true, true)) else (none)) else (none)) else (if 0 ≤ (wrap64 (a0 - 1)) then (if (wrap64 (a0 - 1)) < (y281.length : Int) then (some (51, rd y281 (wrap64 (a0 - 1)), 0, 0, true, true, true, true)) else (none)) else (none))))) = some (r1, r2, r3, r4, r5, r6, r7, r8) := q_2
       have Ny281 := Aside0.mk hy_
       clear hy_
       by_cases c8 : a0 > 10
       · rw [if_pos c8] at H
         have c8b0 : decide (10 < a0) = true := decide_eq_true c8
         clear c8
         by_cases c9 : a0 = 2
         · rw [if_pos c9] at H
           have c9b0 : (a0 == 2) = true := beq_iff_eq.mpr c9
           have c9b1 : (a0 != 2) = false := bne_eq_false_iff_eq.mpr c9
           clear c9
           obtain ⟨ji10, hji10⟩ : ∃ j_ : Int, (wrap64 (a0 - 1)) = j_ := ⟨_, rfl⟩
           replace H : (if 0 ≤ (ji10) then (if (ji10) < (y281.length : Int) then (some (51, rd y281 (ji10), 32, 0, true, true, true, true)) else (none)) else (none)) = some (r1, r2, r3, r4, r5, r6, r7, r8) := by first | (rw [hji10] at H; exact H) | (simp only [hji10] at H ⊢; exact H)
           have hji10w : (IntKind.i64.wrap (a0 - 1)) = ji10 := (i64_w _).trans hji10
           by_cases c11 : 0 ≤ (ji10)
           · rw [if_pos c11] at H
             have c11b0 : decide (0 ≤ (ji10)) = true := decide_eq_true c11
             clear c11
             by_cases c12 : (ji10) < (y281.length : Int)
             · rw [if_pos c12] at H
               have c12b0 : decide ((ji10) < (y281.length : Int)) = true := decide_eq_true c12
               clear c12
               simp only [Option.some.injEq, Prod.mk.injEq] at H
               obtain ⟨rfl, rfl, rfl, rfl, rfl, rfl, rfl, rfl⟩ := H
               go_wp2_with (first | ((with_reducible refine gate_dst (N := 21) rfl ?_); refine Kd.R_lit (Kd.int .u32) _ 42 ?hg (N := 21) ?hd (xs := ([0, 0, 1, 2, 3, 4, 5, 5, 6, 7, 0, 1, 2, 3, 4, 5, 6, 7] : List Int)) (inner := [.int .u32 0, .int .u32 0, .int .u32 1, .int .u32 2, .int .u32 3, .int .u32 4, .int .u32 5, .int .u32 5, .int .u32 6, .int .u32 7, .int .u32 0, .int .u32 1, .int .u32 2, .int .u32 3, .int .u32 4, .int .u32 5, .int .u32 6, .int .u32 7]) (ok := fun _ => True) (okp := fun _ => True) ?hr ?hp (fun _ hk => hk) trivial (Below.refl _ _) (Nat.le_refl _) (by simp) ?_; (case hd => rfl); (case hg => rfl); (case hr => exact m_14); (case hp => exact m_39); intro v282 w13 ho14 hb hg_ hnew_; clear hg_ hnew_; (first | rw [← Ny281.out] at ho14 | (simp only [Int.reduceToNat] at ho14; rw [← Ny281.out] at ho14)); have n0_ := Aside0.mk (Kd.R_lower ho14 (below_size (m_2))); have n1_ := Aside0.mk (blk_below (g := gb280) (o := .cells #[.int .u32 0, .int .u32 0, .int .u32 0, .int .i64 0, .bool false, .bool false, .bool false] 69 (0, 0)) (m_26) hb); have n2_ := Aside0.mk (below_step (m_2) hb); clear BK280; clear HB; have HO283 := n0_; have BK280 := n1_; have HB := n2_; clear n0_ n1_ n2_; clear hb ho14; obtain ⟨Ao15, co15, eo15⟩ := Kd.R_slice HO283.out; subst eo15; have p284 : 0 ≤ ((ji10) : Int) := of_decide_eq_true (m_1); have q284 : (ji10) < (y281.length : Int) := of_decide_eq_true (m_1); obtain ⟨ad284, e284, hx284_0⟩ := Kd.at_int (Kd.R_reads' HO283.out).2.2 (ji10) p284 q284; cases e284; replace p284 := eq_true p284; replace q284 := eq_true q284; obtain ⟨hcz16_0, hcz16_1, hcz16_2, hcz16_3, hcz16_4, hcz16_5, hcz16_6, hfz16_0, hfz16_1, hfz16_2, hfz16_3, hfz16_4, hfz16_5, hfz16_6⟩ := cz7 (w := w13) BK280.out))
               refine bodyPost_ret (results_ct rfl _ _ gb280 69 #[.int .u32 51, .int .u32 (rd y281 (ji10)), .int .u32 32, .int .i64 0, .bool true, .bool true, .bool true] (0, 0) _ rfl (q_1) Try.underlying69 rfl (by kernel_rfl)) rfl ?_
               exact ⟨by first | rfl | (simp [errW_none, errW_some] <;> rfl) | (simp only [← hji10]; first | rfl | (simp [errW_none, errW_some] <;> rfl)) | (simp [*, errW_none, errW_some] <;> rfl), m_2⟩
             · rw [if_neg c12] at H
               exact absurd H (by simp)
           · rw [if_neg c11] at H
             exact absurd H (by simp)
         · rw [if_neg c9] at H
           have c9b0 : (a0 == 2) = false := beq_eq_false_iff_ne.mpr c9
           have c9b1 : (a0 != 2) = true := bne_iff_ne.mpr c9
           by_cases c17 : a0 = 8
           · rw [if_pos c17] at H
             have c17b0 : (a0 == 8) = true := beq_iff_eq.mpr c17
             have c17b1 : (a0 != 8) = false := bne_eq_false_iff_eq.mpr c17
             clear c17
             obtain ⟨ji18, hji18⟩ : ∃ j_ : Int, (wrap64 (a0 - 1)) = j_ := ⟨_, rfl⟩
             replace H : (if 0 ≤ (ji18) then (if (ji18) < (y281.length : Int) then (some (51, rd y281 (ji18), 32, 0, true, true, true, true)) else (none)) else (none)) = some (r1, r2, r3, r4, r5, r6, r7, r8) := by first | (rw [hji18] at H; exact H) | (simp only [hji18] at H ⊢; exact H)
             have hji18w : (IntKind.i64.wrap (a0 - 1)) = ji18 := (i64_w _).trans hji18
             by_cases c19 : 0 ≤ (ji18)
             · rw [if_pos c19] at H
               have c19b0 : decide (0 ≤ (ji18)) = true := decide_eq_true c19
               clear c19
               by_cases c20 : (ji18) < (y281.length : Int)
               · rw [if_pos c20] at H
                 have c20b0 : decide ((ji18) < (y281.length : Int)) = true := decide_eq_true c20
                 clear c20
                 simp only [Option.some.injEq, Prod.mk.injEq] at H
                 obtain ⟨rfl, rfl, rfl, rfl, rfl, rfl, rfl, rfl⟩ := H
                 go_wp2_with (first | ((with_reducible refine gate_dst (N := 21) rfl ?_); refine Kd.R_lit (Kd.int .u32) _ 42 ?hg (N := 21) ?hd (xs := ([0, 0, 1, 2, 3, 4, 5, 5, 6, 7, 0, 1, 2, 3, 4, 5, 6, 7] : List Int)) (inner := [.int .u32 0, .int .u32 0, .int .u32 1, .int .u32 2, .int .u32 3, .int .u32 4, .int .u32 5, .int .u32 5, .int .u32 6, .int .u32 7, .int .u32 0, .int .u32 1, .int .u32 2, .int .u32 3, .int .u32 4, .int .u32 5, .int .u32 6, .int .u32 7]) (ok := fun _ => True) (okp := fun _ => True) ?hr ?hp (fun _ hk => hk) trivial (Below.refl _ _) (Nat.le_refl _) (by simp) ?_; (case hd => rfl); (case hg => rfl); (case hr => exact m_14); (case hp => exact m_39); intro v282 w21 ho22 hb hg_ hnew_; clear hg_ hnew_; (first | rw [← Ny281.out] at ho22 | (simp only [Int.reduceToNat] at ho22; rw [← Ny281.out] at ho22)); have n0_ := Aside0.mk (Kd.R_lower ho22 (below_size (m_2))); have n1_ := Aside0.mk (blk_below (g := gb280) (o := .cells #[.int .u32 0, .int .u32 0, .int .u32 0, .int .i64 0, .bool false, .bool false, .bool false] 69 (0, 0)) (m_26) hb); have n2_ := Aside0.mk (below_step (m_2) hb); clear BK280; clear HB; have HO283 := n0_; have BK280 := n1_; have HB := n2_; clear n0_ n1_ n2_; clear hb ho22; obtain ⟨Ao23, co23, eo23⟩ := Kd.R_slice HO283.out; subst eo23; have p285 : 0 ≤ ((ji18) : Int) := of_decide_eq_true (m_1); have q285 : (ji18) < (y281.length : Int) := of_decide_eq_true (m_1); obtain ⟨ad285, e285, hx285_0⟩ := Kd.at_int (Kd.R_reads' HO283.out).2.2 (ji18) p285 q285; cases e285; replace p285 := eq_true p285; replace q285 := eq_true q285; obtain ⟨hcz24_0, hcz24_1, hcz24_2, hcz24_3, hcz24_4, hcz24_5, hcz24_6, hfz24_0, hfz24_1, hfz24_2, hfz24_3, hfz24_4, hfz24_5, hfz24_6⟩ := cz7 (w := w21) BK280.out))
                 refine bodyPost_ret (results_ct rfl _ _ gb280 69 #[.int .u32 51, .int .u32 (rd y281 (ji18)), .int .u32 32, .int .i64 0, .bool true, .bool true, .bool true] (0, 0) _ rfl (q_1) Try.underlying69 rfl (by kernel_rfl)) rfl ?_
                 exact ⟨by first | rfl | (simp [errW_none, errW_some] <;> rfl) | (simp only [← hji18]; first | rfl | (simp [errW_none, errW_some] <;> rfl)) | (simp [*, errW_none, errW_some] <;> rfl), m_2⟩
               · rw [if_neg c20] at H
                 exact absurd H (by simp)
             · rw [if_neg c19] at H
               exact absurd H (by simp)
           · rw [if_neg c17] at H
             have c17b0 : (a0 == 8) = false := beq_eq_false_iff_ne.mpr c17
             have c17b1 : (a0 != 8) = true := bne_iff_ne.mpr c17
             obtain ⟨ji25, hji25⟩ : ∃ j_ : Int, (wrap64 (a0 - 1)) = j_ := ⟨_, rfl⟩
             replace H : (if 0 ≤ (ji25) then (if (ji25) < (y281.length : Int) then (some (51, rd y281 (ji25), 1, 0, true, true, true, true)) else (none)) else (none)) = some (r1, r2, r3, r4, r5, r6, r7, r8) := by first | (rw [hji25] at H; exact H) | (simp only [hji25] at H ⊢; exact H)
             have hji25w : (IntKind.i64.wrap (a0 - 1)) = ji25 := (i64_w _).trans hji25
             by_cases c26 : 0 ≤ (ji25)
             · rw [if_pos c26] at H
               have c26b0 : decide (0 ≤ (ji25)) = true := decide_eq_true c26
               clear c26
               by_cases c27 : (ji25) < (y281.length : Int)
               · rw [if_pos c27] at H
                 have c27b0 : decide ((ji25) < (y281.length : Int)) = true := decide_eq_true c27
                 clear c27
                 simp only [Option.some.injEq, Prod.mk.injEq] at H
                 obtain ⟨rfl, rfl, rfl, rfl, rfl, rfl, rfl, rfl⟩ := H
                 go_wp2_with (first | ((with_reducible refine gate_dst (N := 21) rfl ?_); refine Kd.R_lit (Kd.int .u32) _ 42 ?hg (N := 21) ?hd (xs := ([0, 0, 1, 2, 3, 4, 5, 5, 6, 7, 0, 1, 2, 3, 4, 5, 6, 7] : List Int)) (inner := [.int .u32 0, .int .u32 0, .int .u32 1, .int .u32 2, .int .u32 3, .int .u32 4, .int .u32 5, .int .u32 5, .int .u32 6, .int .u32 7, .int .u32 0, .int .u32 1, .int .u32 2, .int .u32 3, .int .u32 4, .int .u32 5, .int .u32 6, .int .u32 7]) (ok := fun _ => True) (okp := fun _ => True) ?hr ?hp (fun _ hk => hk) trivial (Below.refl _ _) (Nat.le_refl _) (by simp) ?_; (case hd => rfl); (case hg => rfl); (case hr => exact m_14); (case hp => exact m_39); intro v282 w28 ho29 hb hg_ hnew_; clear hg_ hnew_; (first | rw [← Ny281.out] at ho29 | (simp only [Int.reduceToNat] at ho29; rw [← Ny281.out] at ho29)); have n0_ := Aside0.mk (Kd.R_lower ho29 (below_size (m_2))); have n1_ := Aside0.mk (blk_below (g := gb280) (o := .cells #[.int .u32 0, .int .u32 0, .int .u32 0, .int .i64 0, .bool false, .bool false, .bool false] 69 (0, 0)) (m_26) hb); have n2_ := Aside0.mk (below_step (m_2) hb); clear BK280; clear HB; have HO283 := n0_; have BK280 := n1_; have HB := n2_; clear n0_ n1_ n2_; clear hb ho29; obtain ⟨Ao30, co30, eo30⟩ := Kd.R_slice HO283.out; subst eo30; have p286 : 0 ≤ ((ji25) : Int) := of_decide_eq_true (m_1); have q286 : (ji25) < (y281.length : Int) := of_decide_eq_true (m_1); obtain ⟨ad286, e286, hx286_0⟩ := Kd.at_int (Kd.R_reads' HO283.out).2.2 (ji25) p286 q286; cases e286; replace p286 := eq_true p286; replace q286 := eq_true q286; obtain ⟨hcz31_0, hcz31_1, hcz31_2, hcz31_3, hcz31_4, hcz31_5, hcz31_6, hfz31_0, hfz31_1, hfz31_2, hfz31_3, hfz31_4, hfz31_5, hfz31_6⟩ := cz7 (w := w28) BK280.out))
                 refine bodyPost_ret (results_ct rfl _ _ gb280 69 #[.int .u32 51, .int .u32 (rd y281 (ji25)), .int .u32 1, .int .i64 0, .bool true, .bool true, .bool true] (0, 0) _ rfl (q_1) Try.underlying69 rfl (by kernel_rfl)) rfl ?_
                 exact ⟨by first | rfl | (simp [errW_none, errW_some] <;> rfl) | (simp only [← hji25]; first | rfl | (simp [errW_none, errW_some] <;> rfl)) | (simp [*, errW_none, errW_some] <;> rfl), m_2⟩
               · rw [if_neg c27] at H
                 exact absurd H (by simp)
             · rw [if_neg c26] at H
               exact absurd H (by simp)
       · rw [if_neg c8] at H
         have c8b0 : decide (10 < a0) = false := decide_eq_false c8
         clear c8
         by_cases c32 : a0 = 2
         · rw [if_pos c32] at H
           have c32b0 : (a0 == 2) = true := beq_iff_eq.mpr c32
           have c32b1 : (a0 != 2) = false := bne_eq_false_iff_eq.mpr c32
           clear c32
           obtain ⟨ji33, hji33⟩ : ∃ j_ : Int, (wrap64 (a0 - 1)) = j_ := ⟨_, rfl⟩
           replace H : (if 0 ≤ (ji33) then (if (ji33) < (y281.length : Int) then (some (51, rd y281 (ji33), 32, 0, true, true, true, true)) else (none)) else (none)) = some (r1, r2, r3, r4, r5, r6, r7, r8) := by first | (rw [hji33] at H; exact H) | (simp only [hji33] at H ⊢; exact H)
           have hji33w : (IntKind.i64.wrap (a0 - 1)) = ji33 := (i64_w _).trans hji33
           by_cases c34 : 0 ≤ (ji33)
           · rw [if_pos c34] at H
             have c34b0 : decide (0 ≤ (ji33)) = true := decide_eq_true c34
             clear c34
             by_cases c35 : (ji33) < (y281.length : Int)
             · rw [if_pos c35] at H
               have c35b0 : decide ((ji33) < (y281.length : Int)) = true := decide_eq_true c35
               clear c35
               simp only [Option.some.injEq, Prod.mk.injEq] at H
               obtain ⟨rfl, rfl, rfl, rfl, rfl, rfl, rfl, rfl⟩ := H
               go_wp2_with (first | ((with_reducible refine gate_dst (N := 21) rfl ?_); refine Kd.R_lit (Kd.int .u32) _ 42 ?hg (N := 21) ?hd (xs := ([0, 0, 1, 2, 3, 4, 5, 5, 6, 7, 0, 1, 2, 3, 4, 5, 6, 7] : List Int)) (inner := [.int .u32 0, .int .u32 0, .int .u32 1, .int .u32 2, .int .u32 3, .int .u32 4, .int .u32 5, .int .u32 5, .int .u32 6, .int .u32 7, .int .u32 0, .int .u32 1, .int .u32 2, .int .u32 3, .int .u32 4, .int .u32 5, .int .u32 6, .int .u32 7]) (ok := fun _ => True) (okp := fun _ => True) ?hr ?hp (fun _ hk => hk) trivial (Below.refl _ _) (Nat.le_refl _) (by simp) ?_; (case hd => rfl); (case hg => rfl); (case hr => exact m_14); (case hp => exact m_39); intro v282 w36 ho37 hb hg_ hnew_; clear hg_ hnew_; (first | rw [← Ny281.out] at ho37 | (simp only [Int.reduceToNat] at ho37; rw [← Ny281.out] at ho37)); have n0_ := Aside0.mk (Kd.R_lower ho37 (below_size (m_2))); have n1_ := Aside0.mk (blk_below (g := gb280) (o := .cells #[.int .u32 0, .int .u32 0, .int .u32 0, .int .i64 0, .bool false, .bool false, .bool false] 69 (0, 0)) (m_26) hb); have n2_ := Aside0.mk (below_step (m_2) hb); clear BK280; clear HB; have HO283 := n0_; have BK280 := n1_; have HB := n2_; clear n0_ n1_ n2_; clear hb ho37; obtain ⟨Ao38, co38, eo38⟩ := Kd.R_slice HO283.out; subst eo38; have p287 : 0 ≤ ((ji33) : Int) := of_decide_eq_true (m_1); have q287 : (ji33) < (y281.length : Int) := of_decide_eq_true (m_1); obtain ⟨ad287, e287, hx287_0⟩ := Kd.at_int (Kd.R_reads' HO283.out).2.2 (ji33) p287 q287; cases e287; replace p287 := eq_true p287; replace q287 := eq_true q287; obtain ⟨hcz39_0, hcz39_1, hcz39_2, hcz39_3, hcz39_4, hcz39_5, hcz39_6, hfz39_0, hfz39_1, hfz39_2, hfz39_3, hfz39_4, hfz39_5, hfz39_6⟩ := cz7 (w := w36) BK280.out))
               refine bodyPost_ret (results_ct rfl _ _ gb280 69 #[.int .u32 51, .int .u32 (rd y281 (ji33)), .int .u32 32, .int .i64 0, .bool true, .bool true, .bool true] (0, 0) _ rfl (q_1) Try.underlying69 rfl (by kernel_rfl)) rfl ?_
               exact ⟨by first | rfl | (simp [errW_none, errW_some] <;> rfl) | (simp only [← hji33]; first | rfl | (simp [errW_none, errW_some] <;> rfl)) | (simp [*, errW_none, errW_some] <;> rfl), m_2⟩
             · rw [if_neg c35] at H
               exact absurd H (by simp)
           · rw [if_neg c34] at H
             exact absurd H (by simp)
         · rw [if_neg c32] at H
           have c32b0 : (a0 == 2) = false := beq_eq_false_iff_ne.mpr c32
           have c32b1 : (a0 != 2) = true := bne_iff_ne.mpr c32
           by_cases c40 : a0 = 8
           · rw [if_pos c40] at H
             have c40b0 : (a0 == 8) = true := beq_iff_eq.mpr c40
             have c40b1 : (a0 != 8) = false := bne_eq_false_iff_eq.mpr c40
             clear c40
             obtain ⟨ji41, hji41⟩ : ∃ j_ : Int, (wrap64 (a0 - 1)) = j_ := ⟨_, rfl⟩
             replace H : (if 0 ≤ (ji41) then (if (ji41) < (y281.length : Int) then (some (51, rd y281 (ji41), 32, 0, true, true, true, true)) else (none)) else (none)) = some (r1, r2, r3, r4, r5, r6, r7, r8) := by first | (rw [hji41] at H; exact H) | (simp only [hji41] at H ⊢; exact H)
             have hji41w : (IntKind.i64.wrap (a0 - 1)) = ji41 := (i64_w _).trans hji41
             by_cases c42 : 0 ≤ (ji41)
             · rw [if_pos c42] at H
               have c42b0 : decide (0 ≤ (ji41)) = true := decide_eq_true c42
               clear c42
               by_cases c43 : (ji41) < (y281.length : Int)
               · rw [if_pos c43] at H
                 have c43b0 : decide ((ji41) < (y281.length : Int)) = true := decide_eq_true c43
                 clear c43
                 simp only [Option.some.injEq, Prod.mk.injEq] at H
                 obtain ⟨rfl, rfl, rfl, rfl, rfl, rfl, rfl, rfl⟩ := H
                 go_wp2_with (first | ((with_reducible refine gate_dst (N := 21) rfl ?_); refine Kd.R_lit (Kd.int .u32) _ 42 ?hg (N := 21) ?hd (xs := ([0, 0, 1, 2, 3, 4, 5, 5, 6, 7, 0, 1, 2, 3, 4, 5, 6, 7] : List Int)) (inner := [.int .u32 0, .int .u32 0, .int .u32 1, .int .u32 2, .int .u32 3, .int .u32 4, .int .u32 5, .int .u32 5, .int .u32 6, .int .u32 7, .int .u32 0, .int .u32 1, .int .u32 2, .int .u32 3, .int .u32 4, .int .u32 5, .int .u32 6, .int .u32 7]) (ok := fun _ => True) (okp := fun _ => True) ?hr ?hp (fun _ hk => hk) trivial (Below.refl _ _) (Nat.le_refl _) (by simp) ?_; (case hd => rfl); (case hg => rfl); (case hr => exact m_14); (case hp => exact m_39); intro v282 w44 ho45 hb hg_ hnew_; clear hg_ hnew_; (first | rw [← Ny281.out] at ho45 | (simp only [Int.reduceToNat] at ho45; rw [← Ny281.out] at ho45)); have n0_ := Aside0.mk (Kd.R_lower ho45 (below_size (m_2))); have n1_ := Aside0.mk (blk_below (g := gb280) (o := .cells #[.int .u32 0, .int .u32 0, .int .u32 0, .int .i64 0, .bool false, .bool false, .bool false] 69 (0, 0)) (m_26) hb); have n2_ := Aside0.mk (below_step (m_2) hb); clear BK280; clear HB; have HO283 := n0_; have BK280 := n1_; have HB := n2_; clear n0_ n1_ n2_; clear hb ho45; obtain ⟨Ao46, co46, eo46⟩ := Kd.R_slice HO283.out; subst eo46; have p288 : 0 ≤ ((ji41) : Int) := of_decide_eq_true (m_1); have q288 : (ji41) < (y281.length : Int) := of_decide_eq_true (m_1); obtain ⟨ad288, e288, hx288_0⟩ := Kd.at_int (Kd.R_reads' HO283.out).2.2 (ji41) p288 q288; cases e288; replace p288 := eq_true p288; replace q288 := eq_true q288; obtain ⟨hcz47_0, hcz47_1, hcz47_2, hcz47_3, hcz47_4, hcz47_5, hcz47_6, hfz47_0, hfz47_1, hfz47_2, hfz47_3, hfz47_4, hfz47_5, hfz47_6⟩ := cz7 (w := w44) BK280.out))
                 refine bodyPost_ret (results_ct rfl _ _ gb280 69 #[.int .u32 51, .int .u32 (rd y281 (ji41)), .int .u32 32, .int .i64 0, .bool true, .bool true, .bool true] (0, 0) _ rfl (q_1) Try.underlying69 rfl (by kernel_rfl)) rfl ?_
                 exact ⟨by first | rfl | (simp [errW_none, errW_some] <;> rfl) | (simp only [← hji41]; first | rfl | (simp [errW_none, errW_some] <;> rfl)) | (simp [*, errW_none, errW_some] <;> rfl), m_2⟩
               · rw [if_neg c43] at H
                 exact absurd H (by simp)
             · rw [if_neg c42] at H
               exact absurd H (by simp)
           · rw [if_neg c40] at H
             have c40b0 : (a0 == 8) = false := beq_eq_false_iff_ne.mpr c40
             have c40b1 : (a0 != 8) = true := bne_iff_ne.mpr c40
             obtain ⟨ji48, hji48⟩ : ∃ j_ : Int, (wrap64 (a0 - 1)) = j_ := ⟨_, rfl⟩
             replace H : (if 0 ≤ (ji48) then (if (ji48) < (y281.length : Int) then (some (51, rd y281 (ji48), 0, 0, true, true, true, true)) else (none)) else (none)) = some (r1, r2, r3, r4, r5, r6, r7, r8) := by first | (rw [hji48] at H; exact H) | (simp only [hji48] at H ⊢; exact H)
             have hji48w : (IntKind.i64.wrap (a0 - 1)) = ji48 := (i64_w _).trans hji48
             by_cases c49 : 0 ≤ (ji48)
             · rw [if_pos c49] at H
               have c49b0 : decide (0 ≤ (ji48)) = true := decide_eq_true c49
               clear c49
               by_cases c50 : (ji48) < (y281.length : Int)
               · rw [if_pos c50] at H
                 have c50b0 : decide ((ji48) < (y281.length : Int)) = true := decide_eq_true c50
                 clear c50
                 simp only [Option.some.injEq, Prod.mk.injEq] at H
                 obtain ⟨rfl, rfl, rfl, rfl, rfl, rfl, rfl, rfl⟩ := H
                 go_wp2_with (first | ((with_reducible refine gate_dst (N := 21) rfl ?_); refine Kd.R_lit (Kd.int .u32) _ 42 ?hg (N := 21) ?hd (xs := ([0, 0, 1, 2, 3, 4, 5, 5, 6, 7, 0, 1, 2, 3, 4, 5, 6, 7] : List Int)) (inner := [.int .u32 0, .int .u32 0, .int .u32 1, .int .u32 2, .int .u32 3, .int .u32 4, .int .u32 5, .int .u32 5, .int .u32 6, .int .u32 7, .int .u32 0, .int .u32 1, .int .u32 2, .int .u32 3, .int .u32 4, .int .u32 5, .int .u32 6, .int .u32 7]) (ok := fun _ => True) (okp := fun _ => True) ?hr ?hp (fun _ hk => hk) trivial (Below.refl _ _) (Nat.le_refl _) (by simp) ?_; (case hd => rfl); (case hg => rfl); (case hr => exact m_14); (case hp => exact m_39); intro v282 w51 ho52 hb hg_ hnew_; clear hg_ hnew_; (first | rw [← Ny281.out] at ho52 | (simp only [Int.reduceToNat] at ho52; rw [← Ny281.out] at ho52)); have n0_ := Aside0.mk (Kd.R_lower ho52 (below_size (m_2))); have n1_ := Aside0.mk (blk_below (g := gb280) (o := .cells #[.int .u32 0, .int .u32 0, .int .u32 0, .int .i64 0, .bool false, .bool false, .bool false] 69 (0, 0)) (m_26) hb); have n2_ := Aside0.mk (below_step (m_2) hb); clear BK280; clear HB; have HO283 := n0_; have BK280 := n1_; have HB := n2_; clear n0_ n1_ n2_; clear hb ho52; obtain ⟨Ao53, co53, eo53⟩ := Kd.R_slice HO283.out; subst eo53; have p289 : 0 ≤ ((ji48) : Int) := of_decide_eq_true (m_1); have q289 : (ji48) < (y281.length : Int) := of_decide_eq_true (m_1); obtain ⟨ad289, e289, hx289_0⟩ := Kd.at_int (Kd.R_reads' HO283.out).2.2 (ji48) p289 q289; cases e289; replace p289 := eq_true p289; replace q289 := eq_true q289; obtain ⟨hcz54_0, hcz54_1, hcz54_2, hcz54_3, hcz54_4, hcz54_5, hcz54_6, hfz54_0, hfz54_1, hfz54_2, hfz54_3, hfz54_4, hfz54_5, hfz54_6⟩ := cz7 (w := w51) BK280.out))
                 refine bodyPost_ret (results_ct rfl _ _ gb280 69 #[.int .u32 51, .int .u32 (rd y281 (ji48)), .int .u32 0, .int .i64 0, .bool true, .bool true, .bool true] (0, 0) _ rfl (q_1) Try.underlying69 rfl (by kernel_rfl)) rfl ?_
                 exact ⟨by first | rfl | (simp [errW_none, errW_some] <;> rfl) | (simp only [← hji48]; first | rfl | (simp [errW_none, errW_some] <;> rfl)) | (simp [*, errW_none, errW_some] <;> rfl), m_2⟩
               · rw [if_neg c50] at H
                 exact absurd H (by simp)
             · rw [if_neg c49] at H
               exact absurd H (by simp)
     · rw [if_neg c7] at H
       have c7b0 : decide (a0 ≤ 18) = false := decide_eq_false c7
       clear c7
       by_cases c55 : a0 ≤ 27
       · rw [if_pos c55] at H
         have c55b0 : decide (a0 ≤ 27) = true := decide_eq_true c55
         clear c55
         obtain ⟨y290, hy_⟩ : ∃ y_ : List Int, y_ = (([0, 2, 3, 4, 6, 7, 1, 5, 5] : List Int)) := ⟨_, rfl⟩
         replace H : (if a0 ≥ 25 then (if a0 = 27 then (if 0 ≤ (wrap64 (a0 - 19)) then (if (wrap64 (a0 - 19)) < (y290.length : Int) then (some (19, rd y290 (wrap64 (a0 - 19)), 32, 6, true, true, false, true)) else (none)) else (none)) else (if 0 ≤ (wrap64 (a0 - 19)) then (if (wrap64 (a0 - 19)) < (y290.length : Int) then (some (19, rd y290 (wrap64 (a0 - 19)), 0, 6, true, true, false, true)) else (none)) else (none))) else (if a0 = 27 then (if 0 ≤ (wrap64 (a0 - 19)) then (if (wrap64 (a0 - 19)) < (y290.length : Int) then (some (19, rd y290 (wrap64 (a0 - 19)), 32, 1, true, true, false, true)) else (none)) else (none)) else (if 0 ≤ (wrap64 (a0 - 19)) then (if (wrap64 (a0 - 19)) < (y290.length : Int) then (some (19, rd y290 (wrap64 (a0 - 19)), 0, 1, true, true, false, true)) else (none)) else (none)))) = some (r1, r2, r3, r4, r5, r6, r7, r8) := q_2
         have Ny290 := Aside0.mk hy_
         clear hy_
         by_cases c56 : a0 ≥ 25
         · rw [if_pos c56] at H
           have c56b0 : decide (25 ≤ a0) = true := decide_eq_true c56
           clear c56
           by_cases c57 : a0 = 27
           · rw [if_pos c57] at H
             have c57b0 : (a0 == 27) = true := beq_iff_eq.mpr c57
             have c57b1 : (a0 != 27) = false := bne_eq_false_iff_eq.mpr c57
             clear c57
             obtain ⟨ji58, hji58⟩ : ∃ j_ : Int, (wrap64 (a0 - 19)) = j_ := ⟨_, rfl⟩
             replace H : (if 0 ≤ (ji58) then (if (ji58) < (y290.length : Int) then (some (19, rd y290 (ji58), 32, 6, true, true, false, true)) else (none)) else (none)) = some (r1, r2, r3, r4, r5, r6, r7, r8) := by first | (rw [hji58] at H; exact H) | (simp only [hji58] at H ⊢; exact H)
             have hji58w : (IntKind.i64.wrap (a0 - 19)) = ji58 := (i64_w _).trans hji58
             by_cases c59 : 0 ≤ (ji58)
             · rw [if_pos c59] at H
               have c59b0 : decide (0 ≤ (ji58)) = true := decide_eq_true c59
               clear c59
               by_cases c60 : (ji58) < (y290.length : Int)
               · rw [if_pos c60] at H
                 have c60b0 : decide ((ji58) < (y290.length : Int)) = true := decide_eq_true c60
                 clear c60
                 simp only [Option.some.injEq, Prod.mk.injEq] at H
                 obtain ⟨rfl, rfl, rfl, rfl, rfl, rfl, rfl, rfl⟩ := H
                 go_wp2_with (first | ((with_reducible refine gate_dst (N := 39) rfl ?_); refine Kd.R_lit (Kd.int .u32) _ 42 ?hg (N := 39) ?hd (xs := ([0, 2, 3, 4, 6, 7, 1, 5, 5] : List Int)) (inner := [.int .u32 0, .int .u32 2, .int .u32 3, .int .u32 4, .int .u32 6, .int .u32 7, .int .u32 1, .int .u32 5, .int .u32 5]) (ok := fun _ => True) (okp := fun _ => True) ?hr ?hp (fun _ hk => hk) trivial (Below.refl _ _) (Nat.le_refl _) (by simp) ?_; (case hd => rfl); (case hg => rfl); (case hr => exact m_14); (case hp => exact m_39); intro v291 w61 ho62 hb hg_ hnew_; clear hg_ hnew_; (first | rw [← Ny290.out] at ho62 | (simp only [Int.reduceToNat] at ho62; rw [← Ny290.out] at ho62)); have n0_ := Aside0.mk (Kd.R_lower ho62 (below_size (m_2))); have n1_ := Aside0.mk (blk_below (g := gb280) (o := .cells #[.int .u32 0, .int .u32 0, .int .u32 0, .int .i64 0, .bool false, .bool false, .bool false] 69 (0, 0)) (m_26) hb); have n2_ := Aside0.mk (below_step (m_2) hb); clear BK280; clear HB; have HO292 := n0_; have BK280 := n1_; have HB := n2_; clear n0_ n1_ n2_; clear hb ho62; obtain ⟨Ao63, co63, eo63⟩ := Kd.R_slice HO292.out; subst eo63; have p293 : 0 ≤ ((ji58) : Int) := of_decide_eq_true (m_1); have q293 : (ji58) < (y290.length : Int) := of_decide_eq_true (m_1); obtain ⟨ad293, e293, hx293_0⟩ := Kd.at_int (Kd.R_reads' HO292.out).2.2 (ji58) p293 q293; cases e293; replace p293 := eq_true p293; replace q293 := eq_true q293; obtain ⟨hcz64_0, hcz64_1, hcz64_2, hcz64_3, hcz64_4, hcz64_5, hcz64_6, hfz64_0, hfz64_1, hfz64_2, hfz64_3, hfz64_4, hfz64_5, hfz64_6⟩ := cz7 (w := w61) BK280.out))
                 refine bodyPost_ret (results_ct rfl _ _ gb280 69 #[.int .u32 19, .int .u32 (rd y290 (ji58)), .int .u32 32, .int .i64 6, .bool true, .bool true, .bool false] (0, 0) _ rfl (q_1) Try.underlying69 rfl (by kernel_rfl)) rfl ?_
                 exact ⟨by first | rfl | (simp [errW_none, errW_some] <;> rfl) | (simp only [← hji58]; first | rfl | (simp [errW_none, errW_some] <;> rfl)) | (simp [*, errW_none, errW_some] <;> rfl), m_2⟩
               · rw [if_neg c60] at H
                 exact absurd H (by simp)
             · rw [if_neg c59] at H
               exact absurd H (by simp)
           · rw [if_neg c57] at H
             have c57b0 : (a0 == 27) = false := beq_eq_false_iff_ne.mpr c57
             have c57b1 : (a0 != 27) = true := bne_iff_ne.mpr c57
             obtain ⟨ji65, hji65⟩ : ∃ j_ : Int, (wrap64 (a0 - 19)) = j_ := ⟨_, rfl⟩
             replace H : (if 0 ≤ (ji65) then (if (ji65) < (y290.length : Int) then (some (19, rd y290 (ji65), 0, 6, true, true, false, true)) else (none)) else (none)) = some (r1, r2, r3, r4, r5, r6, r7, r8) := by first | (rw [hji65] at H; exact H) | (simp only [hji65] at H ⊢; exact H)
             have hji65w : (IntKind.i64.wrap (a0 - 19)) = ji65 := (i64_w _).trans hji65
             by_cases c66 : 0 ≤ (ji65)
             · rw [if_pos c66] at H
               have c66b0 : decide (0 ≤ (ji65)) = true := decide_eq_true c66
               clear c66
               by_cases c67 : (ji65) < (y290.length : Int)
               · rw [if_pos c67] at H
                 have c67b0 : decide ((ji65) < (y290.length : Int)) = true := decide_eq_true c67
                 clear c67
                 simp only [Option.some.injEq, Prod.mk.injEq] at H
                 obtain ⟨rfl, rfl, rfl, rfl, rfl, rfl, rfl, rfl⟩ := H
                 go_wp2_with (first | ((with_reducible refine gate_dst (N := 39) rfl ?_); refine Kd.R_lit (Kd.int .u32) _ 42 ?hg (N := 39) ?hd (xs := ([0, 2, 3, 4, 6, 7, 1, 5, 5] : List Int)) (inner := [.int .u32 0, .int .u32 2, .int .u32 3, .int .u32 4, .int .u32 6, .int .u32 7, .int .u32 1, .int .u32 5, .int .u32 5]) (ok := fun _ => True) (okp := fun _ => True) ?hr ?hp (fun _ hk => hk) trivial (Below.refl _ _) (Nat.le_refl _) (by simp) ?_; (case hd => rfl); (case hg => rfl); (case hr => exact m_14); (case hp => exact m_39); intro v291 w68 ho69 hb hg_ hnew_; clear hg_ hnew_; (first | rw [← Ny290.out] at ho69 | (simp only [Int.reduceToNat] at ho69; rw [← Ny290.out] at ho69)); have n0_ := Aside0.mk (Kd.R_lower ho69 (below_size (m_2))); have n1_ := Aside0.mk (blk_below (g := gb280) (o := .cells #[.int .u32 0, .int .u32 0, .int .u32 0, .int .i64 0, .bool false, .bool false, .bool false] 69 (0, 0)) (m_26) hb); have n2_ := Aside0.mk (below_step (m_2) hb); clear BK280; clear HB; have HO292 := n0_; have BK280 := n1_; have HB := n2_; clear n0_ n1_ n2_; clear hb ho69; obtain ⟨Ao70, co70, eo70⟩ := Kd.R_slice HO292.out; subst eo70; have p294 : 0 ≤ ((ji65) : Int) := of_decide_eq_true (m_1); have q294 : (ji65) < (y290.length : Int) := of_decide_eq_true (m_1); obtain ⟨ad294, e294, hx294_0⟩ := Kd.at_int (Kd.R_reads' HO292.out).2.2 (ji65) p294 q294; cases e294; replace p294 := eq_true p294; replace q294 := eq_true q294; obtain ⟨hcz71_0, hcz71_1, hcz71_2, hcz71_3, hcz71_4, hcz71_5, hcz71_6, hfz71_0, hfz71_1, hfz71_2, hfz71_3, hfz71_4, hfz71_5, hfz71_6⟩ := cz7 (w := w68) BK280.out))
                 refine bodyPost_ret (results_ct rfl _ _ gb280 69 #[.int .u32 19, .int .u32 (rd y290 (ji65)), .int .u32 0, .int .i64 6, .bool true, .bool true, .bool false] (0, 0) _ rfl (q_1) Try.underlying69 rfl (by kernel_rfl)) rfl ?_
                 exact ⟨by first | rfl | (simp [errW_none, errW_some] <;> rfl) | (simp only [← hji65]; first | rfl | (simp [errW_none, errW_some] <;> rfl)) | (simp [*, errW_none, errW_some] <;> rfl), m_2⟩
               · rw [if_neg c67] at H
                 exact absurd H (by simp)
             · rw [if_neg c66] at H
               exact absurd H (by simp)
         · rw [if_neg c56] at H
           have c56b0 : decide (25 ≤ a0) = false := decide_eq_false c56
           clear c56
           by_cases c72 : a0 = 27
           · rw [if_pos c72] at H
             have c72b0 : (a0 == 27) = true := beq_iff_eq.mpr c72
             have c72b1 : (a0 != 27) = false := bne_eq_false_iff_eq.mpr c72
             clear c72
             obtain ⟨ji73, hji73⟩ : ∃ j_ : Int, (wrap64 (a0 - 19)) = j_ := ⟨_, rfl⟩
             replace H : (if 0 ≤ (ji73) then (if (ji73) < (y290.length : Int) then (some (19, rd y290 (ji73), 32, 1, true, true, false, true)) else (none)) else (none)) = some (r1, r2, r3, r4, r5, r6, r7, r8) := by first | (rw [hji73] at H; exact H) | (simp only [hji73] at H ⊢; exact H)
             have hji73w : (IntKind.i64.wrap (a0 - 19)) = ji73 := (i64_w _).trans hji73
             by_cases c74 : 0 ≤ (ji73)
             · rw [if_pos c74] at H
               have c74b0 : decide (0 ≤ (ji73)) = true := decide_eq_true c74
               clear c74
               by_cases c75 : (ji73) < (y290.length : Int)
               · rw [if_pos c75] at H
                 have c75b0 : decide ((ji73) < (y290.length : Int)) = true := decide_eq_true c75
                 clear c75
                 simp only [Option.some.injEq, Prod.mk.injEq] at H
                 obtain ⟨rfl, rfl, rfl, rfl, rfl, rfl, rfl, rfl⟩ := H
                 go_wp2_with (first | ((with_reducible refine gate_dst (N := 39) rfl ?_); refine Kd.R_lit (Kd.int .u32) _ 42 ?hg (N := 39) ?hd (xs := ([0, 2, 3, 4, 6, 7, 1, 5, 5] : List Int)) (inner := [.int .u32 0, .int .u32 2, .int .u32 3, .int .u32 4, .int .u32 6, .int .u32 7, .int .u32 1, .int .u32 5, .int .u32 5]) (ok := fun _ => True) (okp := fun _ => True) ?hr ?hp (fun _ hk => hk) trivial (Below.refl _ _) (Nat.le_refl _) (by simp) ?_; (case hd => rfl); (case hg => rfl); (case hr => exact m_14); (case hp => exact m_39); intro v291 w76 ho77 hb hg_ hnew_; clear hg_ hnew_; (first | rw [← Ny290.out] at ho77 | (simp only [Int.reduceToNat] at ho77; rw [← Ny290.out] at ho77)); have n0_ := Aside0.mk (Kd.R_lower ho77 (below_size (m_2))); have n1_ := Aside0.mk (blk_below (g := gb280) (o := .cells #[.int .u32 0, .int .u32 0, .int .u32 0, .int .i64 0, .bool false, .bool false, .bool false] 69 (0, 0)) (m_26) hb); have n2_ := Aside0.mk (below_step (m_2) hb); clear BK280; clear HB; have HO292 := n0_; have BK280 := n1_; have HB := n2_; clear n0_ n1_ n2_; clear hb ho77; obtain ⟨Ao78, co78, eo78⟩ := Kd.R_slice HO292.out; subst eo78; have p295 : 0 ≤ ((ji73) : Int) := of_decide_eq_true (m_1); have q295 : (ji73) < (y290.length : Int) := of_decide_eq_true (m_1); obtain ⟨ad295, e295, hx295_0⟩ := Kd.at_int (Kd.R_reads' HO292.out).2.2 (ji73) p295 q295; cases e295; replace p295 := eq_true p295; replace q295 := eq_true q295; obtain ⟨hcz79_0, hcz79_1, hcz79_2, hcz79_3, hcz79_4, hcz79_5, hcz79_6, hfz79_0, hfz79_1, hfz79_2, hfz79_3, hfz79_4, hfz79_5, hfz79_6⟩ := cz7 (w := w76) BK280.out))
                 refine bodyPost_ret (results_ct rfl _ _ gb280 69 #[.int .u32 19, .int .u32 (rd y290 (ji73)), .int .u32 32, .int .i64 1, .bool true, .bool true, .bool false] (0, 0) _ rfl (q_1) Try.underlying69 rfl (by kernel_rfl)) rfl ?_
                 exact ⟨by first | rfl | (simp [errW_none, errW_some] <;> rfl) | (simp only [← hji73]; first | rfl | (simp [errW_none, errW_some] <;> rfl)) | (simp [*, errW_none, errW_some] <;> rfl), m_2⟩
               · rw [if_neg c75] at H
                 exact absurd H (by simp)
             · rw [if_neg c74] at H
               exact absurd H (by simp)
           · rw [if_neg c72] at H
             have c72b0 : (a0 == 27) = false := beq_eq_false_iff_ne.mpr c72
             have c72b1 : (a0 != 27) = true := bne_iff_ne.mpr c72
             obtain ⟨ji80, hji80⟩ : ∃ j_ : Int, (wrap64 (a0 - 19)) = j_ := ⟨_, rfl⟩
             replace H : (if 0 ≤ (ji80) then (if (ji80) < (y290.length : Int) then (some (19, rd y290 (ji80), 0, 1, true, true, false, true)) else (none)) else (none)) = some (r1, r2, r3, r4, r5, r6, r7, r8) := by first | (rw [hji80] at H; exact H) | (simp only [hji80] at H ⊢; exact H)
             have hji80w : (IntKind.i64.wrap (a0 - 19)) = ji80 := (i64_w _).trans hji80
             by_cases c81 : 0 ≤ (ji80)
             · rw [if_pos c81] at H
               have c81b0 : decide (0 ≤ (ji80)) = true := decide_eq_true c81
               clear c81
               by_cases c82 : (ji80) < (y290.length : Int)
               · rw [if_pos c82] at H
                 have c82b0 : decide ((ji80) < (y290.length : Int)) = true := decide_eq_true c82
                 clear c82
                 simp only [Option.some.injEq, Prod.mk.injEq] at H
                 obtain ⟨rfl, rfl, rfl, rfl, rfl, rfl, rfl, rfl⟩ := H
                 go_wp2_with (first | ((with_reducible refine gate_dst (N := 39) rfl ?_); refine Kd.R_lit (Kd.int .u32) _ 42 ?hg (N := 39) ?hd (xs := ([0, 2, 3, 4, 6, 7, 1, 5, 5] : List Int)) (inner := [.int .u32 0, .int .u32 2, .int .u32 3, .int .u32 4, .int .u32 6, .int .u32 7, .int .u32 1, .int .u32 5, .int .u32 5]) (ok := fun _ => True) (okp := fun _ => True) ?hr ?hp (fun _ hk => hk) trivial (Below.refl _ _) (Nat.le_refl _) (by simp) ?_; (case hd => rfl); (case hg => rfl); (case hr => exact m_14); (case hp => exact m_39); intro v291 w83 ho84 hb hg_ hnew_; clear hg_ hnew_; (first | rw [← Ny290.out] at ho84 | (simp only [Int.reduceToNat] at ho84; rw [← Ny290.out] at ho84)); have n0_ := Aside0.mk (Kd.R_lower ho84 (below_size (m_2))); have n1_ := Aside0.mk (blk_below (g := gb280) (o := .cells #[.int .u32 0, .int .u32 0, .int .u32 0, .int .i64 0, .bool false, .bool false, .bool false] 69 (0, 0)) (m_26) hb); have n2_ := Aside0.mk (below_step (m_2) hb); clear BK280; clear HB; have HO292 := n0_; have BK280 := n1_; have HB := n2_; clear n0_ n1_ n2_; clear hb ho84; obtain ⟨Ao85, co85, eo85⟩ := Kd.R_slice HO292.out; subst eo85; have p296 : 0 ≤ ((ji80) : Int) := of_decide_eq_true (m_1); have q296 : (ji80) < (y290.length : Int) := of_decide_eq_true (m_1); obtain ⟨ad296, e296, hx296_0⟩ := Kd.at_int (Kd.R_reads' HO292.out).2.2 (ji80) p296 q296; cases e296; replace p296 := eq_true p296; replace q296 := eq_true q296; obtain ⟨hcz86_0, hcz86_1, hcz86_2, hcz86_3, hcz86_4, hcz86_5, hcz86_6, hfz86_0, hfz86_1, hfz86_2, hfz86_3, hfz86_4, hfz86_5, hfz86_6⟩ := cz7 (w := w83) BK280.out))
                 refine bodyPost_ret (results_ct rfl _ _ gb280 69 #[.int .u32 19, .int .u32 (rd y290 (ji80)), .int .u32 0, .int .i64 1, .bool true, .bool true, .bool false] (0, 0) _ rfl (q_1) Try.underlying69 rfl (by kernel_rfl)) rfl ?_
                 exact ⟨by first | rfl | (simp [errW_none, errW_some] <;> rfl) | (simp only [← hji80]; first | rfl | (simp [errW_none, errW_some] <;> rfl)) | (simp [*, errW_none, errW_some] <;> rfl), m_2⟩
               · rw [if_neg c82] at H
                 exact absurd H (by simp)
             · rw [if_neg c81] at H
               exact absurd H (by simp)
       · rw [if_neg c55] at H
         have c55b0 : decide (a0 ≤ 27) = false := decide_eq_false c55
         clear c55
         by_cases c87 : a0 ≤ 32
         · rw [if_pos c87] at H
           have c87b0 : decide (a0 ≤ 32) = true := decide_eq_true c87
           clear c87
           obtain ⟨y297, hy_⟩ : ∃ y_ : List Int, y_ = (([0, 1, 2, 4, 5] : List Int)) := ⟨_, rfl⟩
           replace H : (if 0 ≤ (wrap64 (a0 - 28)) then (if (wrap64 (a0 - 28)) < (y297.length : Int) then (some (3, rd y297 (wrap64 (a0 - 28)), 0, 1, true, true, false, true)) else (none)) else (none)) = some (r1, r2, r3, r4, r5, r6, r7, r8) := q_2
           have Ny297 := Aside0.mk hy_
           clear hy_
           obtain ⟨ji88, hji88⟩ : ∃ j_ : Int, (wrap64 (a0 - 28)) = j_ := ⟨_, rfl⟩
           replace H : (if 0 ≤ (ji88) then (if (ji88) < (y297.length : Int) then (some (3, rd y297 (ji88), 0, 1, true, true, false, true)) else (none)) else (none)) = some (r1, r2, r3, r4, r5, r6, r7, r8) := by first | (rw [hji88] at H; exact H) | (simp only [hji88] at H ⊢; exact H)
           have hji88w : (IntKind.i64.wrap (a0 - 28)) = ji88 := (i64_w _).trans hji88
           by_cases c89 : 0 ≤ (ji88)
           · rw [if_pos c89] at H
             have c89b0 : decide (0 ≤ (ji88)) = true := decide_eq_true c89
             clear c89
             by_cases c90 : (ji88) < (y297.length : Int)
             · rw [if_pos c90] at H
               have c90b0 : decide ((ji88) < (y297.length : Int)) = true := decide_eq_true c90
               clear c90
               simp only [Option.some.injEq, Prod.mk.injEq] at H
               obtain ⟨rfl, rfl, rfl, rfl, rfl, rfl, rfl, rfl⟩ := H
               go_wp2_with (first | ((with_reducible refine gate_dst (N := 54) rfl ?_); refine Kd.R_lit (Kd.int .u32) _ 42 ?hg (N := 54) ?hd (xs := ([0, 1, 2, 4, 5] : List Int)) (inner := [.int .u32 0, .int .u32 1, .int .u32 2, .int .u32 4, .int .u32 5]) (ok := fun _ => True) (okp := fun _ => True) ?hr ?hp (fun _ hk => hk) trivial (Below.refl _ _) (Nat.le_refl _) (by simp) ?_; (case hd => rfl); (case hg => rfl); (case hr => exact m_14); (case hp => exact m_39); intro v298 w91 ho92 hb hg_ hnew_; clear hg_ hnew_; (first | rw [← Ny297.out] at ho92 | (simp only [Int.reduceToNat] at ho92; rw [← Ny297.out] at ho92)); have n0_ := Aside0.mk (Kd.R_lower ho92 (below_size (m_2))); have n1_ := Aside0.mk (blk_below (g := gb280) (o := .cells #[.int .u32 0, .int .u32 0, .int .u32 0, .int .i64 0, .bool false, .bool false, .bool false] 69 (0, 0)) (m_26) hb); have n2_ := Aside0.mk (below_step (m_2) hb); clear BK280; clear HB; have HO299 := n0_; have BK280 := n1_; have HB := n2_; clear n0_ n1_ n2_; clear hb ho92; obtain ⟨Ao93, co93, eo93⟩ := Kd.R_slice HO299.out; subst eo93; have p300 : 0 ≤ ((ji88) : Int) := of_decide_eq_true (m_1); have q300 : (ji88) < (y297.length : Int) := of_decide_eq_true (m_1); obtain ⟨ad300, e300, hx300_0⟩ := Kd.at_int (Kd.R_reads' HO299.out).2.2 (ji88) p300 q300; cases e300; replace p300 := eq_true p300; replace q300 := eq_true q300; obtain ⟨hcz94_0, hcz94_1, hcz94_2, hcz94_3, hcz94_4, hcz94_5, hcz94_6, hfz94_0, hfz94_1, hfz94_2, hfz94_3, hfz94_4, hfz94_5, hfz94_6⟩ := cz7 (w := w91) BK280.out))
               refine bodyPost_ret (results_ct rfl _ _ gb280 69 #[.int .u32 3, .int .u32 (rd y297 (ji88)), .int .u32 0, .int .i64 1, .bool true, .bool true, .bool false] (0, 0) _ rfl (q_1) Try.underlying69 rfl (by kernel_rfl)) rfl ?_
               exact ⟨by first | rfl | (simp [errW_none, errW_some] <;> rfl) | (simp only [← hji88]; first | rfl | (simp [errW_none, errW_some] <;> rfl)) | (simp [*, errW_none, errW_some] <;> rfl), m_2⟩
             · rw [if_neg c90] at H
               exact absurd H (by simp)
           · rw [if_neg c89] at H
             exact absurd H (by simp)
         · rw [if_neg c87] at H
           have c87b0 : decide (a0 ≤ 32) = false := decide_eq_false c87
           clear c87
           by_cases c95 : a0 ≤ 35
           · rw [if_pos c95] at H
             have c95b0 : decide (a0 ≤ 35) = true := decide_eq_true c95
             clear c95
             simp only [Option.some.injEq, Prod.mk.injEq] at H
             obtain ⟨rfl, rfl, rfl, rfl, rfl, rfl, rfl, rfl⟩ := H
             obtain ⟨hcz96_0, hcz96_1, hcz96_2, hcz96_3, hcz96_4, hcz96_5, hcz96_6, hfz96_0, hfz96_1, hfz96_2, hfz96_3, hfz96_4, hfz96_5, hfz96_6⟩ := cz7 (w := wc) BK280.out
             go_wp2
             refine bodyPost_ret (results_ct rfl _ _ gb280 69 #[.int .u32 35, .int .u32 ((wrap64 (a0 - 33)) % 4294967296), .int .u32 0, .int .i64 2, .bool false, .bool true, .bool true] (0, 0) _ rfl (q_1) Try.underlying69 rfl (by kernel_rfl)) rfl ?_
             exact ⟨m_3, m_2⟩
           · rw [if_neg c95] at H
             have c95b0 : decide (a0 ≤ 35) = false := decide_eq_false c95
             clear c95
             by_cases c97 : a0 ≤ 41
             · rw [if_pos c97] at H
               have c97b0 : decide (a0 ≤ 41) = true := decide_eq_true c97
               clear c97
               obtain ⟨y301, hy_⟩ : ∃ y_ : List Int, y_ = (([0, 1, 4, 5, 6, 7] : List Int)) := ⟨_, rfl⟩
               replace H : (if 0 ≤ (wrap64 (a0 - 36)) then (if (wrap64 (a0 - 36)) < (y301.length : Int) then (some (99, rd y301 (wrap64 (a0 - 36)), 0, 3, false, true, true, true)) else (none)) else (none)) = some (r1, r2, r3, r4, r5, r6, r7, r8) := q_2
               have Ny301 := Aside0.mk hy_
               clear hy_
               obtain ⟨ji98, hji98⟩ : ∃ j_ : Int, (wrap64 (a0 - 36)) = j_ := ⟨_, rfl⟩
               replace H : (if 0 ≤ (ji98) then (if (ji98) < (y301.length : Int) then (some (99, rd y301 (ji98), 0, 3, false, true, true, true)) else (none)) else (none)) = some (r1, r2, r3, r4, r5, r6, r7, r8) := by first | (rw [hji98] at H; exact H) | (simp only [hji98] at H ⊢; exact H)
               have hji98w : (IntKind.i64.wrap (a0 - 36)) = ji98 := (i64_w _).trans hji98
               by_cases c99 : 0 ≤ (ji98)
               · rw [if_pos c99] at H
                 have c99b0 : decide (0 ≤ (ji98)) = true := decide_eq_true c99
                 clear c99
                 by_cases c100 : (ji98) < (y301.length : Int)
                 · rw [if_pos c100] at H
                   have c100b0 : decide ((ji98) < (y301.length : Int)) = true := decide_eq_true c100
                   clear c100
                   simp only [Option.some.injEq, Prod.mk.injEq] at H
                   obtain ⟨rfl, rfl, rfl, rfl, rfl, rfl, rfl, rfl⟩ := H
                   go_wp2_with (first | ((with_reducible refine gate_dst (N := 69) rfl ?_); refine Kd.R_lit (Kd.int .u32) _ 42 ?hg (N := 69) ?hd (xs := ([0, 1, 4, 5, 6, 7] : List Int)) (inner := [.int .u32 0, .int .u32 1, .int .u32 4, .int .u32 5, .int .u32 6, .int .u32 7]) (ok := fun _ => True) (okp := fun _ => True) ?hr ?hp (fun _ hk => hk) trivial (Below.refl _ _) (Nat.le_refl _) (by simp) ?_; (case hd => rfl); (case hg => rfl); (case hr => exact m_14); (case hp => exact m_39); intro v302 w101 ho102 hb hg_ hnew_; clear hg_ hnew_; (first | rw [← Ny301.out] at ho102 | (simp only [Int.reduceToNat] at ho102; rw [← Ny301.out] at ho102)); have n0_ := Aside0.mk (Kd.R_lower ho102 (below_size (m_2))); have n1_ := Aside0.mk (blk_below (g := gb280) (o := .cells #[.int .u32 0, .int .u32 0, .int .u32 0, .int .i64 0, .bool false, .bool false, .bool false] 69 (0, 0)) (m_26) hb); have n2_ := Aside0.mk (below_step (m_2) hb); clear BK280; clear HB; have HO303 := n0_; have BK280 := n1_; have HB := n2_; clear n0_ n1_ n2_; clear hb ho102; obtain ⟨Ao103, co103, eo103⟩ := Kd.R_slice HO303.out; subst eo103; have p304 : 0 ≤ ((ji98) : Int) := of_decide_eq_true (m_1); have q304 : (ji98) < (y301.length : Int) := of_decide_eq_true (m_1); obtain ⟨ad304, e304, hx304_0⟩ := Kd.at_int (Kd.R_reads' HO303.out).2.2 (ji98) p304 q304; cases e304; replace p304 := eq_true p304; replace q304 := eq_true q304; obtain ⟨hcz104_0, hcz104_1, hcz104_2, hcz104_3, hcz104_4, hcz104_5, hcz104_6, hfz104_0, hfz104_1, hfz104_2, hfz104_3, hfz104_4, hfz104_5, hfz104_6⟩ := cz7 (w := w101) BK280.out))
                   refine bodyPost_ret (results_ct rfl _ _ gb280 69 #[.int .u32 99, .int .u32 (rd y301 (ji98)), .int .u32 0, .int .i64 3, .bool false, .bool true, .bool true] (0, 0) _ rfl (q_1) Try.underlying69 rfl (by kernel_rfl)) rfl ?_
                   exact ⟨by first | rfl | (simp [errW_none, errW_some] <;> rfl) | (simp only [← hji98]; first | rfl | (simp [errW_none, errW_some] <;> rfl)) | (simp [*, errW_none, errW_some] <;> rfl), m_2⟩
                 · rw [if_neg c100] at H
                   exact absurd H (by simp)
               · rw [if_neg c99] at H
                 exact absurd H (by simp)
             · rw [if_neg c97] at H
               have c97b0 : decide (a0 ≤ 41) = false := decide_eq_false c97
               clear c97
               obtain ⟨y305, hy_⟩ : ∃ y_ : List (S69), y_ = (([(⟨55, 0, 0, 4, true, false, false⟩ : S69), (⟨23, 0, 0, 4, true, false, false⟩ : S69), (⟨111, 0, 0, 5, true, false, false⟩ : S69), (⟨103, 0, 0, 1, true, true, false⟩ : S69), (⟨15, 0, 0, 1, false, false, false⟩ : S69)] : List (S69))) := ⟨_, rfl⟩
               replace H : (if 0 ≤ (wrap64 (a0 - 42)) then (if (wrap64 (a0 - 42)) < (y305.length : Int) then (some ((rd_T69 y305 (wrap64 (a0 - 42))).f0, (rd_T69 y305 (wrap64 (a0 - 42))).f1, (rd_T69 y305 (wrap64 (a0 - 42))).f2, (rd_T69 y305 (wrap64 (a0 - 42))).f3, (rd_T69 y305 (wrap64 (a0 - 42))).f4, (rd_T69 y305 (wrap64 (a0 - 42))).f5, (rd_T69 y305 (wrap64 (a0 - 42))).f6, true)) else (none)) else (none)) = some (r1, r2, r3, r4, r5, r6, r7, r8) := q_2
               have Ny305 := Aside0.mk hy_
               clear hy_
               obtain ⟨ji105, hji105⟩ : ∃ j_ : Int, (wrap64 (a0 - 42)) = j_ := ⟨_, rfl⟩
               replace H : (if 0 ≤ (ji105) then (if (ji105) < (y305.length : Int) then (some ((rd_T69 y305 (ji105)).f0, (rd_T69 y305 (ji105)).f1, (rd_T69 y305 (ji105)).f2, (rd_T69 y305 (ji105)).f3, (rd_T69 y305 (ji105)).f4, (rd_T69 y305 (ji105)).f5, (rd_T69 y305 (ji105)).f6, true)) else (none)) else (none)) = some (r1, r2, r3, r4, r5, r6, r7, r8) := by first | (rw [hji105] at H; exact H) | (simp only [hji105] at H ⊢; exact H)
               have hji105w : (IntKind.i64.wrap (a0 - 42)) = ji105 := (i64_w _).trans hji105
               by_cases c106 : 0 ≤ (ji105)
               · rw [if_pos c106] at H
                 have c106b0 : decide (0 ≤ (ji105)) = true := decide_eq_true c106
                 clear c106
                 by_cases c107 : (ji105) < (y305.length : Int)
                 · rw [if_pos c107] at H
                   have c107b0 : decide ((ji105) < (y305.length : Int)) = true := decide_eq_true c107
                   clear c107
                   simp only [Option.some.injEq, Prod.mk.injEq] at H
                   obtain ⟨rfl, rfl, rfl, rfl, rfl, rfl, rfl, rfl⟩ := H
                   go_wp2_with (first | ((with_reducible refine gate_dst (N := 81) rfl ?_); refine Kd.R_lit k69 _ 69 ?hg (N := 81) ?hd (xs := ([(⟨55, 0, 0, 4, true, false, false⟩ : S69), (⟨23, 0, 0, 4, true, false, false⟩ : S69), (⟨111, 0, 0, 5, true, false, false⟩ : S69), (⟨103, 0, 0, 1, true, true, false⟩ : S69), (⟨15, 0, 0, 1, false, false, false⟩ : S69)] : List (S69))) (inner := [.int .u32 55, .int .u32 0, .int .u32 0, .int .i64 4, .bool true, .bool false, .bool false, .int .u32 23, .int .u32 0, .int .u32 0, .int .i64 4, .bool true, .bool false, .bool false, .int .u32 111, .int .u32 0, .int .u32 0, .int .i64 5, .bool true, .bool false, .bool false, .int .u32 103, .int .u32 0, .int .u32 0, .int .i64 1, .bool true, .bool true, .bool false, .int .u32 15, .int .u32 0, .int .u32 0, .int .i64 1, .bool false, .bool false, .bool false]) (ok := fun _ => True) (okp := fun _ => True) ?hr ?hp (fun _ hk => hk) trivial (Below.refl _ _) (Nat.le_refl _) (by simp) ?_; (case hd => rfl); (case hg => rfl); (case hr => exact m_14); (case hp => exact (Reps.c7 (show Kd.M k69 _ _ _ (⟨55, 0, 0, 4, true, false, false⟩ : S69) [.int .u32 55, .int .u32 0, .int .u32 0, .int .i64 4, .bool true, .bool false, .bool false] from (k69_mkM _ _ _ (⟨55, 0, 0, 4, true, false, false⟩ : S69) )) (Reps.c7 (show Kd.M k69 _ _ _ (⟨23, 0, 0, 4, true, false, false⟩ : S69) [.int .u32 23, .int .u32 0, .int .u32 0, .int .i64 4, .bool true, .bool false, .bool false] from (k69_mkM _ _ _ (⟨23, 0, 0, 4, true, false, false⟩ : S69) )) (Reps.c7 (show Kd.M k69 _ _ _ (⟨111, 0, 0, 5, true, false, false⟩ : S69) [.int .u32 111, .int .u32 0, .int .u32 0, .int .i64 5, .bool true, .bool false, .bool false] from (k69_mkM _ _ _ (⟨111, 0, 0, 5, true, false, false⟩ : S69) )) (Reps.c7 (show Kd.M k69 _ _ _ (⟨103, 0, 0, 1, true, true, false⟩ : S69) [.int .u32 103, .int .u32 0, .int .u32 0, .int .i64 1, .bool true, .bool true, .bool false] from (k69_mkM _ _ _ (⟨103, 0, 0, 1, true, true, false⟩ : S69) )) (Reps.c7 (show Kd.M k69 _ _ _ (⟨15, 0, 0, 1, false, false, false⟩ : S69) [.int .u32 15, .int .u32 0, .int .u32 0, .int .i64 1, .bool false, .bool false, .bool false] from (k69_mkM _ _ _ (⟨15, 0, 0, 1, false, false, false⟩ : S69) )) (Reps.none _ _))))))); intro v306 w108 ho109 hb hg_ hnew_; clear hg_ hnew_; (first | rw [← Ny305.out] at ho109 | (simp only [Int.reduceToNat] at ho109; rw [← Ny305.out] at ho109)); have n0_ := Aside0.mk (Kd.R_lower (Kd.R_newB ho109 (g := gb280) (o := .cells #[.int .u32 0, .int .u32 0, .int .u32 0, .int .i64 0, .bool false, .bool false, .bool false] 69 (0, 0)) (m_26)) (below_size (m_2))); have n1_ := Aside0.mk (blk_below (g := gb280) (o := .cells #[.int .u32 0, .int .u32 0, .int .u32 0, .int .i64 0, .bool false, .bool false, .bool false] 69 (0, 0)) (m_26) hb); have n2_ := Aside0.mk (below_step (m_2) hb); clear BK280; clear HB; have HO307 := n0_; have BK280 := n1_; have HB := n2_; clear n0_ n1_ n2_; clear hb ho109; obtain ⟨Ao110, co110, eo110⟩ := Kd.R_slice HO307.out; subst eo110; have p308 : 0 ≤ ((ji105) : Int) := of_decide_eq_true (m_1); have q308 : (ji105) < (y305.length : Int) := of_decide_eq_true (m_1); obtain ⟨ad308, e308, hx308_0, hx308_1, hx308_2, hx308_3, hx308_4, hx308_5, hx308_6⟩ := at_T69 (Kd.R_reads' HO307.out).2.2 (ji105) p308 q308; cases e308; replace p308 := eq_true p308; replace q308 := eq_true q308; obtain ⟨hcz111_0, hcz111_1, hcz111_2, hcz111_3, hcz111_4, hcz111_5, hcz111_6, hfz111_0, hfz111_1, hfz111_2, hfz111_3, hfz111_4, hfz111_5, hfz111_6⟩ := cz7 (w := w108) BK280.out))
                   refine bodyPost_ret (results_ct rfl _ _ gb280 69 #[.int .u32 ((rd_T69 y305 (ji105)).f0), .int .u32 ((rd_T69 y305 (ji105)).f1), .int .u32 ((rd_T69 y305 (ji105)).f2), .int .i64 ((rd_T69 y305 (ji105)).f3), .bool ((rd_T69 y305 (ji105)).f4), .bool ((rd_T69 y305 (ji105)).f5), .bool ((rd_T69 y305 (ji105)).f6)] (0, 0) _ rfl (q_1) Try.underlying69 rfl (by kernel_rfl)) rfl ?_
                   exact ⟨by first | rfl | (simp [errW_none, errW_some] <;> rfl) | (simp only [← hji105]; first | rfl | (simp [errW_none, errW_some] <;> rfl)) | (simp [*, errW_none, errW_some] <;> rfl), m_2⟩
                 · rw [if_neg c107] at H
                   exact absurd H (by simp)
               · rw [if_neg c106] at H
                 exact absurd H (by simp)
end Go.Proofs.Ytihecimbhhlhaaa.PRs
