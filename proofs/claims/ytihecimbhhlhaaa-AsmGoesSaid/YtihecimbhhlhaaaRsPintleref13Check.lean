/- d13C: a plain function with the same answers as the program's, and the proof of it, as a program has written them. -/
import Derived.Test.YtihecimbhhlhaaaRsG1
import Derived.Test.YtihecimbhhlhaaaRsG7
import Derived.Test.YtihecimbhhlhaaaRsPintleref13May
import Derived.Test.YtihecimbhhlhaaaRsMc
namespace Go.Proofs.Ytihecimbhhlhaaa.PRs
open Go.RowKit Go.Proofs.YtihecimbhhlhaaaW.PrintWords Go.Proofs.YtihecimbhhlhaaaW.PrintLast Go.Proofs.YtihecimbhhlhaaaW.PrintMore
set_option linter.unusedVariables false
set_option linter.unusedSimpArgs false
attribute [local go_sem high] eqA32
/-! ### d13C: function 28 -/
mutual
def d13C.l0 : Nat → List (S34) → Int → Option (Int)
 | 0, _, _ => none
 | k + 1, x0, x3 => if x3 < (x0.length : Int) then (if 0 ≤ x3 then ((d13m.f k ((rd_T34 x0 x3).f0) ((rd_T34 x0 x3).f1.f0) ((rd_T34 x0 x3).f1.f1) ((rd_T34 x0 x3).f1.f2) ((rd_T34 x0 x3).f1.f3) ((rd_T34 x0 x3).f1.f4) ((rd_T34 x0 x3).f2)).bind fun t358 => (if t358 = true then (d13C.l0 k x0 (wrap64 (x3 + 1))) else (some 1))) else (none)) else (d13C.l1 k x0 0)
def d13C.l1 : Nat → List (S34) → Int → Option (Int)
 | 0, _, _ => none
 | k + 1, x0, x4 => if x4 < (x0.length : Int) then (if 0 ≤ x4 then (if ((rd_T34 x0 x4).f0) ≥ 2 then (if ((rd_T34 x0 x4).f0) ≤ 4 then ((d13F.f k x0 ((rd_T34 x0 x4).f2)).bind fun t361 => (if t361 < 0 then (some 8) else (d13C.l1 k x0 (wrap64 (x4 + 1))))) else (d13C.l1 k x0 (wrap64 (x4 + 1)))) else (d13C.l1 k x0 (wrap64 (x4 + 1)))) else (none)) else (some 0)
end
def d13C.f (k : Nat) (l0 : List (S34)) : Option (Int) := if (l0.length : Int) > 262144 then (some 2) else (d13C.l0 k l0 0)
theorem lfxRsPintleref13Check0 {P : Prop} (h : P := by
 have H' := Aside0.mk H
 clear H
 have p_0 : 0 ≤ (x4_2 : Int) := of_decide_eq_true (m_1)
 have q_1 : x4_2 < (l0.length : Int) := of_decide_eq_true (m_1)
 obtain ⟨ad_2, e_3, hx_4, hx_5, hx_6, hx_7, hx_8, hx_9, hx_10⟩ := at_T34 HR0.out x4_2 p_0 q_1
 cases e_3
 obtain ⟨hx_4, hx_5, hx_6, hx_7, hx_8, hx_9, hx_10⟩ := mv7 HB.out hx_4 hx_5 hx_6 hx_7 hx_8 hx_9 hx_10
 replace p_0 := eq_true p_0
 replace q_1 := eq_true q_1
 go_wp2
 go_roundg k2
 case measure => have := HK1.out; have := HK2.out; omega
 case rel => exact ⟨(wrap64 (x4_2 + 1)), (m_5), H', ⟨by have := HK1.out; have := HK2.out; omega⟩, ⟨m_0⟩⟩) : P := h
set_option maxHeartbeats 8000000 in
set_option maxRecDepth 100000 in
theorem d13C.calls (k : Nat) (A0 : Option Addr) (c0 : Nat) (l0 : List (S34)) (r : Int) (w : World) (hr0 : Kd.C k34 w A0 l0.length l0) (hc0 : l0.length ≤ c0) (h : d13C.f k l0 = some r) :
 Calls Try.prog 28 #[.slice A0 l0.length c0] w fun e w' => e = .returned (.int .i64 r) ∧ Below w.heap.size w w' := by
 have hu34 := Try.underlying34
 have HR0 := Aside0.mk hr0
 have HC0 := Aside0.mk hc0
 clear hr0 hc0
 have HB := Aside0.mk (Below.refl w.heap.size w)
 have H : (if (l0.length : Int) > 262144 then (some 2) else (d13C.l0 k l0 0)) = some r := h
 clear h
 by_cases c2 : (l0.length : Int) > 262144
 · rw [if_pos c2] at H
   have c2b0 : decide (262144 < (l0.length : Int)) = true := decide_eq_true c2
   have c2b1 : decide (262144 < l0.length) = true := decide_eq_true (by omega)
   clear c2
   obtain rfl := Option.some.inj H
   go_enter Try.func28, Try.ntmps28
   go_wp2
   go_ret
   exact ⟨m_3, m_0⟩
 · rw [if_neg c2] at H
   have c2b0 : decide (262144 < (l0.length : Int)) = false := decide_eq_false c2
   have c2b1 : decide (262144 < l0.length) = false := decide_eq_false (by omega)
   clear c2
   have H' := Aside0.mk H
   clear H
   go_enter Try.func28, Try.ntmps28
   go_wp2
   go_loopg [3] k (fun kq v3 w' => ∃ (x3_1 : Int), v3 = .int .i64 x3_1 ∧ Aside0 (d13C.l0 kq l0 x3_1 = some r) ∧ Aside0 (kq ≤ k) ∧ Aside0 (Below w.heap.size w w'))
   case atStart => exact ⟨(0), (m_5), H', ⟨Nat.le_refl _⟩, ⟨m_0⟩⟩
   case round =>
    clear H'
    obtain ⟨x3_1, rfl, HA, HK1, HB⟩ := hrel
    cases gk with
    | zero => exact absurd HA.out (by simp [d13C.l0])
    | succ k1 =>
     have H := HA.out
     clear HA
     simp only [d13C.l0] at H
     by_cases c3 : x3_1 < (l0.length : Int)
     · rw [if_pos c3] at H
       have c3b0 : decide (x3_1 < (l0.length : Int)) = true := decide_eq_true c3
       clear c3
       by_cases c4 : 0 ≤ x3_1
       · rw [if_pos c4] at H
         have c4b0 : decide (0 ≤ x3_1) = true := decide_eq_true c4
         clear c4
         replace H := Option.bind_eq_some_iff.mp H
         obtain ⟨t358, A50, H⟩ := H
         replace H : (if t358 = true then (d13C.l0 k1 l0 (wrap64 (x3_1 + 1))) else (some 1)) = some r := H
         have A5 := Aside0.mk A50
         clear A50
         by_cases c6 : t358 = true
         · subst c6
           have H1 : (d13C.l0 k1 l0 (wrap64 (x3_1 + 1))) = some r := by rw [if_pos rfl] at H; exact H
           clear H
           have H := H1
           clear H1
           have H' := Aside0.mk H
           clear H
           have p357 : 0 ≤ (x3_1 : Int) := of_decide_eq_true (m_1)
           have q357 : x3_1 < (l0.length : Int) := of_decide_eq_true (m_1)
           obtain ⟨ad357, e357, hx357_0, hx357_1, hx357_2, hx357_3, hx357_4, hx357_5, hx357_6⟩ := at_T34 HR0.out x3_1 p357 q357
           cases e357
           obtain ⟨hx357_0, hx357_1, hx357_2, hx357_3, hx357_4, hx357_5, hx357_6⟩ := mv7 HB.out hx357_0 hx357_1 hx357_2 hx357_3 hx357_4 hx357_5 hx357_6
           replace p357 := eq_true p357
           replace q357 := eq_true q357
           go_wp2_with (first | ((with_reducible refine gate_callee (f := 41) rfl ?_); refine goesL_ (some 19) rfl rfl Try.func41 (by kernel_rfl) rfl #[.agg #[.int .i64 ((rd_T34 l0 x3_1).f0), .int .i64 ((rd_T34 l0 x3_1).f1.f0), .int .i64 ((rd_T34 l0 x3_1).f1.f1), .int .i64 ((rd_T34 l0 x3_1).f1.f2), .int .i64 ((rd_T34 l0 x3_1).f1.f3), .int .i32 ((rd_T34 l0 x3_1).f1.f4), .int .i64 ((rd_T34 l0 x3_1).f2)]] rfl (m_8) ?_; (with_reducible refine (d13m.calls k1 ((rd_T34 l0 x3_1).f0) ((rd_T34 l0 x3_1).f1.f0) ((rd_T34 l0 x3_1).f1.f1) ((rd_T34 l0 x3_1).f1.f2) ((rd_T34 l0 x3_1).f1.f3) ((rd_T34 l0 x3_1).f1.f4) ((rd_T34 l0 x3_1).f2) true _ A5.out).mono ?_); rintro e w7 ⟨rfl, hb⟩; refine ⟨_, rfl, ?_⟩; have n0_ := Aside0.mk (below_step (m_0) hb); clear HB; have HB := n0_; clear n0_; (try clear hb); (try clear hb2); (try clear hk); (try clear hi)))
           go_roundg k1
           case measure => have := HK1.out; omega
           case rel => exact ⟨(wrap64 (x3_1 + 1)), (m_5), H', ⟨by have := HK1.out; omega⟩, ⟨m_0⟩⟩
         · replace c6 := Bool.eq_false_iff.mpr c6
           subst c6
           have H1 : (some 1) = some r := by rw [if_neg (show ¬ (false = true) by decide)] at H; exact H
           clear H
           have H := H1
           clear H1
           obtain rfl := Option.some.inj H
           have p357 : 0 ≤ (x3_1 : Int) := of_decide_eq_true (m_1)
           have q357 : x3_1 < (l0.length : Int) := of_decide_eq_true (m_1)
           obtain ⟨ad357, e357, hx357_0, hx357_1, hx357_2, hx357_3, hx357_4, hx357_5, hx357_6⟩ := at_T34 HR0.out x3_1 p357 q357
           cases e357
           obtain ⟨hx357_0, hx357_1, hx357_2, hx357_3, hx357_4, hx357_5, hx357_6⟩ := mv7 HB.out hx357_0 hx357_1 hx357_2 hx357_3 hx357_4 hx357_5 hx357_6
           replace p357 := eq_true p357
           replace q357 := eq_true q357
           go_wp2_with (first | ((with_reducible refine gate_callee (f := 41) rfl ?_); refine goesL_ (some 19) rfl rfl Try.func41 (by kernel_rfl) rfl #[.agg #[.int .i64 ((rd_T34 l0 x3_1).f0), .int .i64 ((rd_T34 l0 x3_1).f1.f0), .int .i64 ((rd_T34 l0 x3_1).f1.f1), .int .i64 ((rd_T34 l0 x3_1).f1.f2), .int .i64 ((rd_T34 l0 x3_1).f1.f3), .int .i32 ((rd_T34 l0 x3_1).f1.f4), .int .i64 ((rd_T34 l0 x3_1).f2)]] rfl (m_8) ?_; (with_reducible refine (d13m.calls k1 ((rd_T34 l0 x3_1).f0) ((rd_T34 l0 x3_1).f1.f0) ((rd_T34 l0 x3_1).f1.f1) ((rd_T34 l0 x3_1).f1.f2) ((rd_T34 l0 x3_1).f1.f3) ((rd_T34 l0 x3_1).f1.f4) ((rd_T34 l0 x3_1).f2) false _ A5.out).mono ?_); rintro e w8 ⟨rfl, hb⟩; refine ⟨_, rfl, ?_⟩; have n0_ := Aside0.mk (below_step (m_0) hb); clear HB; have HB := n0_; clear n0_; (try clear hb); (try clear hb2); (try clear hk); (try clear hi)))
           go_ret
           exact ⟨m_3, m_0⟩
       · rw [if_neg c4] at H
         exact absurd H (by simp)
     · rw [if_neg c3] at H
       have c3b0 : decide (x3_1 < (l0.length : Int)) = false := decide_eq_false c3
       clear c3
       have H' := Aside0.mk H
       clear H
       go_wp2
       go_loopg [4] k1 (fun kq v4 w' => ∃ (x4_2 : Int), v4 = .int .i64 x4_2 ∧ Aside0 (d13C.l1 kq l0 x4_2 = some r) ∧ Aside0 (kq ≤ k1) ∧ Aside0 (Below w.heap.size w w'))
       case atStart => exact ⟨(0), (m_5), H', ⟨Nat.le_refl _⟩, ⟨m_0⟩⟩
       case round =>
        clear H'
        obtain ⟨x4_2, rfl, HA, HK2, HB⟩ := hrel
        cases gk with
        | zero => exact absurd HA.out (by simp [d13C.l1])
        | succ k2 =>
         have H := HA.out
         clear HA
         simp only [d13C.l1] at H
         by_cases c9 : x4_2 < (l0.length : Int)
         · rw [if_pos c9] at H
           have c9b0 : decide (x4_2 < (l0.length : Int)) = true := decide_eq_true c9
           clear c9
           by_cases c10 : 0 ≤ x4_2
           · rw [if_pos c10] at H
             have c10b0 : decide (0 ≤ x4_2) = true := decide_eq_true c10
             clear c10
             by_cases c11 : ((rd_T34 l0 x4_2).f0) ≥ 2
             · rw [if_pos c11] at H
               have c11b0 : decide (2 ≤ ((rd_T34 l0 x4_2).f0)) = true := decide_eq_true c11
               clear c11
               by_cases c12 : ((rd_T34 l0 x4_2).f0) ≤ 4
               · rw [if_pos c12] at H
                 have c12b0 : decide (((rd_T34 l0 x4_2).f0) ≤ 4) = true := decide_eq_true c12
                 clear c12
                 replace H := Option.bind_eq_some_iff.mp H
                 obtain ⟨t361, A130, H⟩ := H
                 replace H : (if t361 < 0 then (some 8) else (d13C.l1 k2 l0 (wrap64 (x4_2 + 1)))) = some r := H
                 have A13 := Aside0.mk A130
                 clear A130
                 by_cases c14 : t361 < 0
                 · rw [if_pos c14] at H
                   have c14b0 : decide (t361 < 0) = true := decide_eq_true c14
                   clear c14
                   obtain rfl := Option.some.inj H
                   have p359 : 0 ≤ (x4_2 : Int) := of_decide_eq_true (m_1)
                   have q359 : x4_2 < (l0.length : Int) := of_decide_eq_true (m_1)
                   obtain ⟨ad359, e359, hx359_0, hx359_1, hx359_2, hx359_3, hx359_4, hx359_5, hx359_6⟩ := at_T34 HR0.out x4_2 p359 q359
                   cases e359
                   obtain ⟨hx359_0, hx359_1, hx359_2, hx359_3, hx359_4, hx359_5, hx359_6⟩ := mv7 HB.out hx359_0 hx359_1 hx359_2 hx359_3 hx359_4 hx359_5 hx359_6
                   replace p359 := eq_true p359
                   replace q359 := eq_true q359
                   have p360 : 0 ≤ (x4_2 : Int) := of_decide_eq_true (m_1)
                   have q360 : x4_2 < (l0.length : Int) := of_decide_eq_true (m_1)
                   obtain ⟨ad360, e360, hx360_0, hx360_1, hx360_2, hx360_3, hx360_4, hx360_5, hx360_6⟩ := at_T34 HR0.out x4_2 p360 q360
                   obtain rfl : ad359 = ad360 := (by injection e360)
                   obtain ⟨hx360_0, hx360_1, hx360_2, hx360_3, hx360_4, hx360_5, hx360_6⟩ := mv7 HB.out hx360_0 hx360_1 hx360_2 hx360_3 hx360_4 hx360_5 hx360_6
                   replace p360 := eq_true p360
                   replace q360 := eq_true q360
                   go_wp2_with (first | (go_at_call 22; (with_reducible refine (d13F.calls k2 _ _ l0 ((rd_T34 l0 x4_2).f2) t361 _ ?side1 ?side2 A13.out).mono ?_); (case side1 => exact m_15); (case side2 => exact HC0.out); rintro e w' ⟨rfl, ⟨nd, rfl⟩⟩))
                   go_ret
                   exact ⟨m_3, m_0⟩
                 · rw [if_neg c14] at H
                   have c14b0 : decide (t361 < 0) = false := decide_eq_false c14
                   clear c14
                   have H' := Aside0.mk H
                   clear H
                   have p359 : 0 ≤ (x4_2 : Int) := of_decide_eq_true (m_1)
                   have q359 : x4_2 < (l0.length : Int) := of_decide_eq_true (m_1)
                   obtain ⟨ad359, e359, hx359_0, hx359_1, hx359_2, hx359_3, hx359_4, hx359_5, hx359_6⟩ := at_T34 HR0.out x4_2 p359 q359
                   cases e359
                   obtain ⟨hx359_0, hx359_1, hx359_2, hx359_3, hx359_4, hx359_5, hx359_6⟩ := mv7 HB.out hx359_0 hx359_1 hx359_2 hx359_3 hx359_4 hx359_5 hx359_6
                   replace p359 := eq_true p359
                   replace q359 := eq_true q359
                   have p360 : 0 ≤ (x4_2 : Int) := of_decide_eq_true (m_1)
                   have q360 : x4_2 < (l0.length : Int) := of_decide_eq_true (m_1)
                   obtain ⟨ad360, e360, hx360_0, hx360_1, hx360_2, hx360_3, hx360_4, hx360_5, hx360_6⟩ := at_T34 HR0.out x4_2 p360 q360
                   obtain rfl : ad359 = ad360 := (by injection e360)
                   obtain ⟨hx360_0, hx360_1, hx360_2, hx360_3, hx360_4, hx360_5, hx360_6⟩ := mv7 HB.out hx360_0 hx360_1 hx360_2 hx360_3 hx360_4 hx360_5 hx360_6
                   replace p360 := eq_true p360
                   replace q360 := eq_true q360
                   go_wp2_with (first | (go_at_call 22; (with_reducible refine (d13F.calls k2 _ _ l0 ((rd_T34 l0 x4_2).f2) t361 _ ?side1 ?side2 A13.out).mono ?_); (case side1 => exact m_15); (case side2 => exact HC0.out); rintro e w' ⟨rfl, ⟨nd, rfl⟩⟩))
                   go_roundg k2
                   case measure => have := HK1.out; have := HK2.out; omega
                   case rel => exact ⟨(wrap64 (x4_2 + 1)), (m_5), H', ⟨by have := HK1.out; have := HK2.out; omega⟩, ⟨m_0⟩⟩
               · rw [if_neg c12] at H
                 have c12b0 : decide (((rd_T34 l0 x4_2).f0) ≤ 4) = false := decide_eq_false c12
                 clear c12
                 exact lfxRsPintleref13Check0
             · rw [if_neg c11] at H
               have c11b0 : decide (2 ≤ ((rd_T34 l0 x4_2).f0)) = false := decide_eq_false c11
               clear c11
               exact lfxRsPintleref13Check0
           · rw [if_neg c10] at H
             exact absurd H (by simp)
         · rw [if_neg c9] at H
           have c9b0 : decide (x4_2 < (l0.length : Int)) = false := decide_eq_false c9
           clear c9
           obtain rfl := Option.some.inj H
           go_wp2
           go_ret
           exact ⟨m_3, m_0⟩
end Go.Proofs.Ytihecimbhhlhaaa.PRs
