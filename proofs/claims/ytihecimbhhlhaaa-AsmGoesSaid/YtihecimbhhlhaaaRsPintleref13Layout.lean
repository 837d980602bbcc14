/- d13L: a plain function with the same answers as the program's, and the proof of it, as a program has written them. -/
import Derived.Test.YtihecimbhhlhaaaRsG1
import Derived.Test.YtihecimbhhlhaaaRsG7
import Derived.Test.YtihecimbhhlhaaaRsPintleref13Places
import Derived.Test.YtihecimbhhlhaaaRsPintleref13Check
import Derived.Test.YtihecimbhhlhaaaRsMc
namespace Go.Proofs.Ytihecimbhhlhaaa.PRs
open Go.RowKit Go.Proofs.YtihecimbhhlhaaaW.PrintWords Go.Proofs.YtihecimbhhlhaaaW.PrintLast Go.Proofs.YtihecimbhhlhaaaW.PrintMore
set_option linter.unusedVariables false
set_option linter.unusedSimpArgs false
/-! ### d13L: function 14 -/
mutual
def d13L.l0 : Nat → List (S34) → List Bool → List Int → Int → Int → Option (List Int × List Bool × Int)
 | 0, _, _, _, _, _ => none
 | k + 1, x0, x6, x7, x8, x9 => if x9 < (x0.length : Int) then (if 0 ≤ x9 then (if ((rd_T34 x0 x9).f0) = 3 then (d13L.l0 k x0 x6 x7 (wrap64 (x8 + 1)) (wrap64 (x9 + 1))) else (d13L.l0 k x0 x6 x7 x8 (wrap64 (x9 + 1)))) else (none)) else (d13L.l1 k x0 x6 x7 x8 0)
def d13L.l1 : Nat → List (S34) → List Bool → List Int → Int → Int → Option (List Int × List Bool × Int)
 | 0, _, _, _, _, _ => none
 | k + 1, x0, x6, x7, x8, x10 => if x10 ≤ x8 then ((d13P.f k x0 x6).bind fun t376 => ((some (([] : List Bool) : List Bool)).bind fun y379 => (if y379.length + x6.length < 140737488355328 then (d13L.l2 k x0 t376 x8 x10 (y379 ++ x6) 0) else (none)))) else (d13L.l3 k x0 x6 x7 0)
def d13L.l2 : Nat → List (S34) → List Int → Int → Int → List Bool → Int → Option (List Int × List Bool × Int)
 | 0, _, _, _, _, _, _ => none
 | k + 1, x0, x7, x8, x10, x11, x12 => if x12 < (x0.length : Int) then (if 0 ≤ x12 then (if ((rd_T34 x0 x12).f0) = 3 then ((d13B.f k x0 x7 x12).bind fun t386 => (if t386 < (-4096) then (if x12 < (x11.length : Int) then (d13L.l2 k x0 x7 x8 x10 (x11.set (x12 : Int).toNat true) (wrap64 (x12 + 1))) else (none)) else ((d13B.f k x0 x7 x12).bind fun t388 => (if t388 > 4094 then (if x12 < (x11.length : Int) then (d13L.l2 k x0 x7 x8 x10 (x11.set (x12 : Int).toNat true) (wrap64 (x12 + 1))) else (none)) else (d13L.l2 k x0 x7 x8 x10 x11 (wrap64 (x12 + 1))))))) else (d13L.l2 k x0 x7 x8 x10 x11 (wrap64 (x12 + 1)))) else (none)) else (d13L.l1 k x0 x11 x7 x8 (wrap64 (x10 + 1)))
def d13L.l3 : Nat → List (S34) → List Bool → List Int → Int → Option (List Int × List Bool × Int)
 | 0, _, _, _, _ => none
 | k + 1, x0, x6, x7, x13 => if x13 < (x0.length : Int) then (if 0 ≤ x13 then (if ((rd_T34 x0 x13).f0) = 4 then ((d13B.f k x0 x7 x13).bind fun t391 => (if t391 < (-1048576) then (some ((([] : List Int)), (([] : List Bool)), 7)) else ((d13B.f k x0 x7 x13).bind fun t398 => (if t398 > 1048574 then (some ((([] : List Int)), (([] : List Bool)), 7)) else (if x13 < (x6.length : Int) then (if rdOf false x6 x13 = true then ((d13B.f k x0 x7 x13).bind fun t406 => (if t406 < (-1048572) then (some ((([] : List Int)), (([] : List Bool)), 7)) else ((d13B.f k x0 x7 x13).bind fun t413 => (if t413 > 1048578 then (some ((([] : List Int)), (([] : List Bool)), 7)) else (d13L.l3 k x0 x6 x7 (wrap64 (x13 + 1))))))) else (d13L.l3 k x0 x6 x7 (wrap64 (x13 + 1)))) else (none)))))) else (if x13 < (x6.length : Int) then (if rdOf false x6 x13 = true then ((d13B.f k x0 x7 x13).bind fun t421 => (if t421 < (-1048572) then (some ((([] : List Int)), (([] : List Bool)), 7)) else ((d13B.f k x0 x7 x13).bind fun t428 => (if t428 > 1048578 then (some ((([] : List Int)), (([] : List Bool)), 7)) else (d13L.l3 k x0 x6 x7 (wrap64 (x13 + 1))))))) else (d13L.l3 k x0 x6 x7 (wrap64 (x13 + 1)))) else (none))) else (none)) else (some (x7, x6, 0))
end
def d13L.f (k : Nat) (l0 : List (S34)) : Option (List Int × List Bool × Int) := (d13C.f k l0).bind fun t362 => (if t362 = 0 then (if 0 ≤ (l0.length : Int) then (if ((l0.length : Int) : Int).toNat ≤ 281474976710656 then ((some (List.replicate ((l0.length : Int) : Int).toNat false : List Bool)).bind fun y369 => ((d13P.f k l0 y369).bind fun t372 => (d13L.l0 k l0 y369 t372 0 0))) else (none)) else (none)) else (some ((([] : List Int)), (([] : List Bool)), t362)))
theorem d13L.mono_l : ∀ k, (∀ y0 y1 y2 y3 y4, LeO (d13L.l0 k y0 y1 y2 y3 y4) (d13L.l0 (k + 1) y0 y1 y2 y3 y4)) ∧ (∀ y0 y1 y2 y3 y4, LeO (d13L.l1 k y0 y1 y2 y3 y4) (d13L.l1 (k + 1) y0 y1 y2 y3 y4)) ∧ (∀ y0 y1 y2 y3 y4 y5, LeO (d13L.l2 k y0 y1 y2 y3 y4 y5) (d13L.l2 (k + 1) y0 y1 y2 y3 y4 y5)) ∧ (∀ y0 y1 y2 y3, LeO (d13L.l3 k y0 y1 y2 y3) (d13L.l3 (k + 1) y0 y1 y2 y3))
 | 0 => ⟨fun _ _ _ _ _ r h => by simp [d13L.l0] at h, fun _ _ _ _ _ r h => by simp [d13L.l1] at h, fun _ _ _ _ _ _ r h => by simp [d13L.l2] at h, fun _ _ _ _ r h => by simp [d13L.l3] at h⟩
 | k + 1 => by
  obtain ⟨ih0, ih1, ih2, ih3⟩ := d13L.mono_l k
  refine ⟨?_, ?_, ?_, ?_⟩
  · intro y0 y1 y2 y3 y4
    unfold d13L.l0
    repeat' first
    | (with_reducible exact ih0 _ _ _ _ _)
    | (with_reducible exact ih1 _ _ _ _ _)
    | (with_reducible exact ih2 _ _ _ _ _ _)
    | (with_reducible exact ih3 _ _ _ _)
    | (with_reducible exact d13B.mono _ _ _ _)
    | (with_reducible exact d13C.mono _ _)
    | (with_reducible exact d13P.mono _ _ _)
    | (with_reducible exact LeO.refl _)
    | (with_reducible exact LeO.none _)
    | (with_reducible refine LeO.ite ?_ ?_)
    | (with_reducible refine LeO.bind ?_ (fun _ => ?_))
    | exact ih0 _ _ _ _ _
    | exact ih1 _ _ _ _ _
    | exact ih2 _ _ _ _ _ _
    | exact ih3 _ _ _ _
    | exact d13B.mono _ _ _ _
    | exact d13C.mono _ _
    | exact d13P.mono _ _ _
    | exact LeO.none _
    | refine LeO.ite ?_ ?_
    | refine LeO.bind ?_ (fun _ => ?_)
  · intro y0 y1 y2 y3 y4
    unfold d13L.l1
    repeat' first
    | (with_reducible exact ih0 _ _ _ _ _)
    | (with_reducible exact ih1 _ _ _ _ _)
    | (with_reducible exact ih2 _ _ _ _ _ _)
    | (with_reducible exact ih3 _ _ _ _)
    | (with_reducible exact d13B.mono _ _ _ _)
    | (with_reducible exact d13C.mono _ _)
    | (with_reducible exact d13P.mono _ _ _)
    | (with_reducible exact LeO.refl _)
    | (with_reducible exact LeO.none _)
    | (with_reducible refine LeO.ite ?_ ?_)
    | (with_reducible refine LeO.bind ?_ (fun _ => ?_))
    | exact ih0 _ _ _ _ _
    | exact ih1 _ _ _ _ _
    | exact ih2 _ _ _ _ _ _
    | exact ih3 _ _ _ _
    | exact d13B.mono _ _ _ _
    | exact d13C.mono _ _
    | exact d13P.mono _ _ _
    | exact LeO.none _
    | refine LeO.ite ?_ ?_
    | refine LeO.bind ?_ (fun _ => ?_)
  · intro y0 y1 y2 y3 y4 y5
    unfold d13L.l2
    repeat' first
    | (with_reducible exact ih0 _ _ _ _ _)
    | (with_reducible exact ih1 _ _ _ _ _)
    | (with_reducible exact ih2 _ _ _ _ _ _)
    | (with_reducible exact ih3 _ _ _ _)
    | (with_reducible exact d13B.mono _ _ _ _)
    | (with_reducible exact d13C.mono _ _)
    | (with_reducible exact d13P.mono _ _ _)
    | (with_reducible exact LeO.refl _)
    | (with_reducible exact LeO.none _)
    | (with_reducible refine LeO.ite ?_ ?_)
    | (with_reducible refine LeO.bind ?_ (fun _ => ?_))
    | exact ih0 _ _ _ _ _
    | exact ih1 _ _ _ _ _
    | exact ih2 _ _ _ _ _ _
    | exact ih3 _ _ _ _
    | exact d13B.mono _ _ _ _
    | exact d13C.mono _ _
    | exact d13P.mono _ _ _
    | exact LeO.none _
    | refine LeO.ite ?_ ?_
    | refine LeO.bind ?_ (fun _ => ?_)
  · intro y0 y1 y2 y3
    unfold d13L.l3
    repeat' first
    | (with_reducible exact ih0 _ _ _ _ _)
    | (with_reducible exact ih1 _ _ _ _ _)
    | (with_reducible exact ih2 _ _ _ _ _ _)
    | (with_reducible exact ih3 _ _ _ _)
    | (with_reducible exact d13B.mono _ _ _ _)
    | (with_reducible exact d13C.mono _ _)
    | (with_reducible exact d13P.mono _ _ _)
    | (with_reducible exact LeO.refl _)
    | (with_reducible exact LeO.none _)
    | (with_reducible refine LeO.ite ?_ ?_)
    | (with_reducible refine LeO.bind ?_ (fun _ => ?_))
    | exact ih0 _ _ _ _ _
    | exact ih1 _ _ _ _ _
    | exact ih2 _ _ _ _ _ _
    | exact ih3 _ _ _ _
    | exact d13B.mono _ _ _ _
    | exact d13C.mono _ _
    | exact d13P.mono _ _ _
    | exact LeO.none _
    | refine LeO.ite ?_ ?_
    | refine LeO.bind ?_ (fun _ => ?_)
set_option maxHeartbeats 8000000 in
set_option maxRecDepth 100000 in
theorem d13L.calls (k : Nat) (A0 : Option Addr) (c0 : Nat) (l0 : List (S34)) (r1 : List Int) (r2 : List Bool) (r3 : Int) (w : World) (hr0 : Kd.C k34 w A0 l0.length l0) (hc0 : l0.length ≤ c0) (h : d13L.f k l0 = some (r1, r2, r3)) :
 Calls Try.prog 14 #[.slice A0 l0.length c0] w fun e w' => ∃ v0_ v1_ : Value, e = .returned (.tuple #[v0_, v1_, .int .i64 r3]) ∧ Kd.R (Kd.int .i64) 3 w' w.heap.size (fun _ => True) v0_ r1 ∧ Kd.R Kd.bool 4 w' w.heap.size (fun _ => True) v1_ r2 ∧ Below w.heap.size w w' := by
 have HR0 := Aside0.mk hr0
 have HC0 := Aside0.mk hc0
 clear hr0 hc0
 have HB := Aside0.mk (Below.refl w.heap.size w)
 have H : ((d13C.f k l0).bind fun t362 => (if t362 = 0 then (if 0 ≤ (l0.length : Int) then (if ((l0.length : Int) : Int).toNat ≤ 281474976710656 then ((some (List.replicate ((l0.length : Int) : Int).toNat false : List Bool)).bind fun y369 => ((d13P.f k l0 y369).bind fun t372 => (d13L.l0 k l0 y369 t372 0 0))) else (none)) else (none)) else (some ((([] : List Int)), (([] : List Bool)), t362)))) = some (r1, r2, r3) := h
 clear h
 replace H := Option.bind_eq_some_iff.mp H
 obtain ⟨t362, A20, H⟩ := H
 replace H : (if t362 = 0 then (if 0 ≤ (l0.length : Int) then (if ((l0.length : Int) : Int).toNat ≤ 281474976710656 then ((some (List.replicate ((l0.length : Int) : Int).toNat false : List Bool)).bind fun y369 => ((d13P.f k l0 y369).bind fun t372 => (d13L.l0 k l0 y369 t372 0 0))) else (none)) else (none)) else (some ((([] : List Int)), (([] : List Bool)), t362))) = some (r1, r2, r3) := H
 have A2 := Aside0.mk A20
 clear A20
 by_cases c3 : t362 = 0
 · rw [if_pos c3] at H
   have c3b0 : (t362 == 0) = true := beq_iff_eq.mpr c3
   have c3b1 : (t362 != 0) = false := bne_eq_false_iff_eq.mpr c3
   clear c3
   by_cases c4 : 0 ≤ (l0.length : Int)
   · rw [if_pos c4] at H
     have c4b0 := eq_true c4
     have c4b1 : decide (0 ≤ (l0.length : Int)) = true := decide_eq_true c4
     clear c4
     by_cases c5 : ((l0.length : Int) : Int).toNat ≤ 281474976710656
     · rw [if_pos c5] at H
       have c5b0 := eq_true c5
       have c5b1 : decide (((l0.length : Int) : Int).toNat ≤ 281474976710656) = true := decide_eq_true c5
       clear c5
       obtain ⟨y369, hy_⟩ : ∃ y_ : List Bool, y_ = (List.replicate ((l0.length : Int) : Int).toNat false) := ⟨_, rfl⟩
       replace H : ((d13P.f k l0 y369).bind fun t372 => (d13L.l0 k l0 y369 t372 0 0)) = some (r1, r2, r3) := q_2
       have Ny369 := Aside0.mk hy_
       clear hy_
       replace H := Option.bind_eq_some_iff.mp H
       obtain ⟨t372, A60, H⟩ := H
       replace H : (d13L.l0 k l0 y369 t372 0 0) = some (r1, r2, r3) := H
       have A6 := Aside0.mk A60
       clear A60
       have H' := Aside0.mk H
       clear H
       go_enter Try.func14, Try.ntmps14
       go_wp2_with (first | ((with_reducible refine gate_callee (f := 28) rfl ?_); refine goesL_ (some 15) rfl rfl Try.func28 (by kernel_rfl) rfl #[.slice A0 l0.length c0] rfl (m_8) ?_; (with_reducible refine (d13C.calls k _ _ l0 t362 _ ?side1 ?side2 A2.out).mono ?_); (case side1 => exact m_44); (case side2 => exact HC0.out); rintro e w7 ⟨rfl, hb⟩; refine ⟨_, rfl, ?_⟩; have n0_ := Aside0.mk (below_step (m_0) hb); clear HB; have HB := n0_; clear n0_; (try clear hb); (try clear hb2); (try clear hk); (try clear hi)) | ((with_reducible refine gate_dst (N := 23) rfl ?_); refine Kd.R_make Kd.bool _ 4 rfl (N := 23) rfl 26 _ _ rfl (l0.length : Int) rfl rfl Try.underlying26 (.bool false) 1 info4 rfl (by decide) (by omega) false (ok := fun _ => True) (okp := fun _ => True) rfl (fun _ hk => hk) trivial (of_decide_eq_true (m_1)) (Nat.le_trans (Nat.mul_le_mul_right _ (of_decide_eq_true (m_1) : (l0.length : Int).toNat ≤ 281474976710656)) (by omega)) (Below.refl _ _) (Nat.le_refl _) ?_; intro v370 w8 ho9 hb hg_ hnew_; clear hg_ hnew_; (first | rw [← Ny369.out] at ho9 | (simp only [Int.reduceToNat] at ho9; rw [← Ny369.out] at ho9)); have n0_ := Aside0.mk (Kd.R_lower ho9 (below_size (m_0))); have n1_ := Aside0.mk (below_step (m_0) hb); clear HB; have HO371 := n0_; have HB := n1_; clear n0_ n1_; clear hb ho9; obtain ⟨Ao10, co10, eo10⟩ := Kd.R_slice HO371.out; subst eo10) | ((with_reducible refine gate_callee (f := 11) rfl ?_); refine goesL_ (some 26) rfl rfl Try.func11 (by kernel_rfl) rfl #[.slice A0 l0.length c0, .slice Ao10 y369.length co10] rfl (m_8) ?_; (with_reducible refine (d13P.calls k _ _ l0 _ _ y369 t372 _ ?side1 ?side2 ?side3 ?side4 A6.out).mono ?_); (case side1 => exact m_15); (case side2 => exact HC0.out); (case side3 => repeat (first | exact (Kd.R_reads' HO371.out).2.2 | (with_reducible refine Kd.C_alloc ?_ _) | (with_reducible refine Kd.C_drewN ?_ _) | (with_reducible refine Kd.C_drew ?_))); (case side4 => exact (Kd.R_reads' HO371.out).2.1); rintro e w11 ⟨v373, rfl, ho0, hb⟩; refine ⟨_, rfl, ?_⟩; have n0_ := Aside0.mk (Kd.R_below (by (with_reducible repeat (first | apply Kd.R_alloc | apply Kd.R_drewN | apply Kd.R_drew)); exact HO371.out) hb); have n1_ := Aside0.mk (Kd.R_lower ho0 (below_size (m_0))); have n2_ := Aside0.mk (below_step (m_0) hb); clear HO371; clear HB; have HO371 := n0_; have HO374 := n1_; have HB := n2_; clear n0_ n1_ n2_; (try clear hb); (try clear hb2); (try clear hk); (try clear hi); (try clear ho0)))
       go_loopg [8, 9] k (fun kq v8 v9 w' => ∃ (x8_1 : Int) (x9_1 : Int), v8 = .int .i64 x8_1 ∧ v9 = .int .i64 x9_1 ∧ Aside0 (d13L.l0 kq l0 y369 t372 x8_1 x9_1 = some (r1, r2, r3)) ∧ Aside0 (kq ≤ k) ∧ Aside0 (Kd.R Kd.bool 4 w' w.heap.size (fun _ => True) (.slice Ao10 y369.length co10) y369) ∧ Aside0 (Kd.R (Kd.int .i64) 3 w' w.heap.size (fun _ => True) v373 t372) ∧ Aside0 (Below w.heap.size w w'))
       case atStart => exact ⟨(0), (0), (m_5), (m_5), H', ⟨Nat.le_refl _⟩, ⟨by (with_reducible repeat (first | apply Kd.R_alloc | apply Kd.R_drewN | apply Kd.R_drew)); exact HO371.out⟩, ⟨by (with_reducible repeat (first | apply Kd.R_alloc | apply Kd.R_drewN | apply Kd.R_drew)); exact HO374.out⟩, ⟨m_0⟩⟩
       case round =>
        clear H'
        obtain ⟨x8_1, x9_1, rfl, rfl, HA, HK1, HO_6, HO_7, HB⟩ := hrel
        cases gk with
        | zero => exact absurd HA.out (by simp [d13L.l0])
        | succ k1 =>
         have H := HA.out
         clear HA
         simp only [d13L.l0] at H
         by_cases c12 : x9_1 < (l0.length : Int)
         · rw [if_pos c12] at H
           have c12b0 : decide (x9_1 < (l0.length : Int)) = true := decide_eq_true c12
           clear c12
           by_cases c13 : 0 ≤ x9_1
           · rw [if_pos c13] at H
             have c13b0 : decide (0 ≤ x9_1) = true := decide_eq_true c13
             clear c13
             by_cases c14 : ((rd_T34 l0 x9_1).f0) = 3
             · rw [if_pos c14] at H
               have c14b0 : (((rd_T34 l0 x9_1).f0) == 3) = true := beq_iff_eq.mpr c14
               have c14b1 : (((rd_T34 l0 x9_1).f0) != 3) = false := bne_eq_false_iff_eq.mpr c14
               clear c14
               have H' := Aside0.mk H
               clear H
               have p375 : 0 ≤ (x9_1 : Int) := of_decide_eq_true (m_1)
               have q375 : x9_1 < (l0.length : Int) := of_decide_eq_true (m_1)
               obtain ⟨ad375, e375, hx375_0, hx375_1, hx375_2, hx375_3, hx375_4, hx375_5, hx375_6⟩ := at_T34 HR0.out x9_1 p375 q375
               cases e375
               obtain ⟨hx375_0, hx375_1, hx375_2, hx375_3, hx375_4, hx375_5, hx375_6⟩ := mv7 HB.out hx375_0 hx375_1 hx375_2 hx375_3 hx375_4 hx375_5 hx375_6
               replace p375 := eq_true p375
               replace q375 := eq_true q375
               go_wp2
               go_roundg k1
               case measure => have := HK1.out; omega
               case rel => exact ⟨(wrap64 (x8_1 + 1)), (wrap64 (x9_1 + 1)), (m_5), (m_5), H', ⟨by have := HK1.out; omega⟩, ⟨m_12⟩, ⟨m_9⟩, ⟨m_0⟩⟩
             · rw [if_neg c14] at H
               have c14b0 : (((rd_T34 l0 x9_1).f0) == 3) = false := beq_eq_false_iff_ne.mpr c14
               have c14b1 : (((rd_T34 l0 x9_1).f0) != 3) = true := bne_iff_ne.mpr c14
               have H' := Aside0.mk H
               clear H
               have p375 : 0 ≤ (x9_1 : Int) := of_decide_eq_true (m_1)
               have q375 : x9_1 < (l0.length : Int) := of_decide_eq_true (m_1)
               obtain ⟨ad375, e375, hx375_0, hx375_1, hx375_2, hx375_3, hx375_4, hx375_5, hx375_6⟩ := at_T34 HR0.out x9_1 p375 q375
               cases e375
               obtain ⟨hx375_0, hx375_1, hx375_2, hx375_3, hx375_4, hx375_5, hx375_6⟩ := mv7 HB.out hx375_0 hx375_1 hx375_2 hx375_3 hx375_4 hx375_5 hx375_6
               replace p375 := eq_true p375
               replace q375 := eq_true q375
               go_wp2
               go_roundg k1
               case measure => have := HK1.out; omega
               case rel => exact ⟨(x8_1), (wrap64 (x9_1 + 1)), (m_5), (m_5), H', ⟨by have := HK1.out; omega⟩, ⟨m_12⟩, ⟨m_9⟩, ⟨m_0⟩⟩
           · rw [if_neg c13] at H
             exact absurd H (by simp)
         · rw [if_neg c12] at H
           have c12b0 : decide (x9_1 < (l0.length : Int)) = false := decide_eq_false c12
           clear c12
           have H' := Aside0.mk H
           clear H
           go_wp2
           go_loopg [6, 7, 10] k1 (fun kq v6 v7 v10 w' => ∃ (x6_2 : List Bool) (x7_2 : List Int) (x10_2 : Int), v10 = .int .i64 x10_2 ∧ Aside0 (d13L.l1 kq l0 x6_2 x7_2 x8_1 x10_2 = some (r1, r2, r3)) ∧ Aside0 (kq ≤ k1) ∧ Aside0 (Kd.R Kd.bool 4 w' w.heap.size (fun _ => True) v6 x6_2) ∧ Aside0 (Kd.R (Kd.int .i64) 3 w' w.heap.size (fun _ => True) v7 x7_2) ∧ Aside0 (Below w.heap.size w w'))
           case atStart => exact ⟨(y369), (t372), (0), (m_5), H', ⟨Nat.le_refl _⟩, ⟨m_12⟩, ⟨m_9⟩, ⟨m_0⟩⟩
           case round =>
            clear H'
            obtain ⟨x6_2, x7_2, x10_2, rfl, HA, HK2, HO_6, HO_7, HB⟩ := hrel
            cases gk with
            | zero => exact absurd HA.out (by simp [d13L.l1])
            | succ k2 =>
             have H := HA.out
             clear HA
             simp only [d13L.l1] at H
             by_cases c15 : x10_2 ≤ x8_1
             · rw [if_pos c15] at H
               have c15b0 : decide (x10_2 ≤ x8_1) = true := decide_eq_true c15
               clear c15
               replace H := Option.bind_eq_some_iff.mp H
               obtain ⟨t376, A160, H⟩ := H
               replace H : ((some (([] : List Bool) : List Bool)).bind fun y379 => (if y379.length + x6_2.length < 140737488355328 then (d13L.l2 k2 l0 t376 x8_1 x10_2 (y379 ++ x6_2) 0) else (none))) = some (r1, r2, r3) := H
               have A16 := Aside0.mk A160
               clear A160
               obtain ⟨y379, hy_⟩ : ∃ y_ : List Bool, y_ = (([] : List Bool)) := ⟨_, rfl⟩
               replace H : (if y379.length + x6_2.length < 140737488355328 then (d13L.l2 k2 l0 t376 x8_1 x10_2 (y379 ++ x6_2) 0) else (none)) = some (r1, r2, r3) := q_2
               have Ny379 := Aside0.mk hy_
               clear hy_
               by_cases c17 : y379.length + x6_2.length < 140737488355328
               · rw [if_pos c17] at H
                 have LMc17 := Aside0.mk c17
                 clear c17
                 obtain ⟨y382, hy_⟩ : ∃ y_ : List Bool, y_ = (y379 ++ x6_2) := ⟨_, rfl⟩
                 replace H : (d13L.l2 k2 l0 t376 x8_1 x10_2 y382 0) = some (r1, r2, r3) := q_2
                 have Ny382 := Aside0.mk hy_
                 clear hy_
                 have H' := Aside0.mk H
                 clear H
                 obtain ⟨Ao18, co18, eo18⟩ := Kd.R_slice HO_6.out
                 subst eo18
                 go_wp2_with (first | ((with_reducible refine gate_callee (f := 11) rfl ?_); refine goesL_ (some 48) rfl rfl Try.func11 (by kernel_rfl) rfl #[.slice A0 l0.length c0, .slice Ao18 x6_2.length co18] rfl (m_8) ?_; (with_reducible refine (d13P.calls k2 _ _ l0 _ _ x6_2 t376 _ ?side1 ?side2 ?side3 ?side4 A16.out).mono ?_); (case side1 => exact m_15); (case side2 => exact HC0.out); (case side3 => repeat (first | exact (Kd.R_reads' HO_6.out).2.2 | (with_reducible refine Kd.C_alloc ?_ _) | (with_reducible refine Kd.C_drewN ?_ _) | (with_reducible refine Kd.C_drew ?_))); (case side4 => exact (Kd.R_reads' HO_6.out).2.1); rintro e w19 ⟨v377, rfl, ho0, hb⟩; refine ⟨_, rfl, ?_⟩; have n0_ := Aside0.mk (Kd.R_below (m_12) hb); have n1_ := Aside0.mk (Kd.R_elder' (m_9) (Kd.R_base ho0) hb); have n2_ := Aside0.mk (Kd.R_lower (Kd.R_new' ho0 (Kd.R_lt (m_9))) (below_size (m_0))); have n3_ := Aside0.mk (below_step (m_0) hb); clear HO_6; clear HO_7; clear HB; have HO_6 := n0_; have HO_7 := n1_; have HO378 := n2_; have HB := n3_; clear n0_ n1_ n2_ n3_; (try clear hb); (try clear hb2); (try clear hk); (try clear hi); (try clear ho0)) | ((with_reducible refine gate_dst (N := 49) rfl ?_); refine Kd.R_lit Kd.bool _ 4 ?hg (N := 49) ?hd (xs := ([] : List Bool)) (inner := []) (ok := fun _ => True) (okp := fun _ => True) ?hr ?hp (fun _ hk => hk) trivial (Below.refl _ _) (Nat.le_refl _) (by simp) ?_; (case hd => rfl); (case hg => rfl); (case hr => exact m_14); (case hp => exact (Reps.none _ _)); intro v380 w20 ho21 hb hg_ hnew_; clear hg_ hnew_; (first | rw [← Ny379.out] at ho21 | (simp only [Int.reduceToNat] at ho21; rw [← Ny379.out] at ho21)); have n0_ := Aside0.mk (Kd.R_elder' (m_12) (Kd.R_base ho21) hb); have n1_ := Aside0.mk (Kd.R_below (m_9) hb); have n2_ := Aside0.mk (Kd.R_below (by (with_reducible repeat (first | apply Kd.R_alloc | apply Kd.R_drewN | apply Kd.R_drew)); exact HO378.out) hb); have n3_ := Aside0.mk (Kd.R_lower (Kd.R_new' ho21 (Kd.R_lt (m_12))) (below_size (m_0))); have n4_ := Aside0.mk (below_step (m_0) hb); clear HO_6; clear HO_7; clear HO378; clear HB; have HO_6 := n0_; have HO_7 := n1_; have HO378 := n2_; have HO381 := n3_; have HB := n4_; clear n0_ n1_ n2_ n3_ n4_; clear hb ho21) | ((with_reducible refine gate_builtin (b := .append) (xs := #[.tmp 49, .tmp 50]) rfl ?_); at_builtin; refine Kd.R_append_rows Kd.bool (w0 := w) w.heap.size rfl (.tmp 49) (.tmp 50) 26 4 (.bool false) 1 rfl Try.underlying26 info4 rfl (by decide) (by omega) v380 y379 x6_2 _ _ _ (fun k_ => some k_ ≠ (.slice Ao18 x6_2.length co18 : Value).ownBlock) (fun _ => False) rfl rfl ?aO ?aR (fun _ _ h => h) (fun _ h => h.elim) ?aF ?aB ?aS ?aL ?_; (case aR => repeat (first | exact (Kd.R_reads' HO_6.out).2.2 | (with_reducible refine Kd.C_alloc ?_ _) | (with_reducible refine Kd.C_drewN ?_ _) | (with_reducible refine Kd.C_drew ?_))); (case aB => exact (m_0)); (case aF => exact (fun k_ hk => Kd.fresh' (Kd.R_lt (m_12)) k_ hk)); (case aO => exact (by (with_reducible repeat (first | apply Kd.R_alloc | apply Kd.R_drewN | apply Kd.R_drew)); exact Kd.R_mono HO381.out (fun _ hk => hk.2))); (case aS => exact (below_size (m_0))); (case aL => have := LMc17.out; omega); intro v383 w22 ho hb hg hat; rw [← Ny382.out] at ho; have n0_ := Aside0.mk (Kd.R_after (ok := (fun _ => True)) (m_12) hg hat); have n1_ := Aside0.mk (Kd.R_over' (m_9) (Kd.R_typed (by (with_reducible repeat (first | apply Kd.R_alloc | apply Kd.R_drewN | apply Kd.R_drew)); exact HO381.out)) (by decide) hg); have n2_ := Aside0.mk (Kd.R_over' (by (with_reducible repeat (first | apply Kd.R_alloc | apply Kd.R_drewN | apply Kd.R_drew)); exact HO378.out) (Kd.R_typed (by (with_reducible repeat (first | apply Kd.R_alloc | apply Kd.R_drewN | apply Kd.R_drew)); exact HO381.out)) (by decide) hg); have n3_ := Aside0.mk (hb); have n4_ := Aside0.mk (ho); clear HO_6; clear HO_7; clear HO378; clear HB; clear HO381; have HO_6 := n0_; have HO_7 := n1_; have HO378 := n2_; have HB := n3_; have HO384 := n4_; clear n0_ n1_ n2_ n3_ n4_; clear ho hb hg hat))
                 go_loopg [12] k2 (fun kq v12 w' => ∃ (x11_3 : List Bool) (x12_3 : Int), v12 = .int .i64 x12_3 ∧ Aside0 (d13L.l2 kq l0 t376 x8_1 x10_2 x11_3 x12_3 = some (r1, r2, r3)) ∧ Aside0 (kq ≤ k2) ∧ Aside0 (Kd.R (Kd.int .i64) 3 w' w.heap.size (fun _ => True) v377 t376) ∧ Aside0 (Kd.R Kd.bool 4 w' w.heap.size (fun _ => True) v383 x11_3) ∧ Aside0 (Below w.heap.size w w'))
                 case atStart => exact ⟨(y382), (0), (m_5), H', ⟨Nat.le_refl _⟩, ⟨by (with_reducible repeat (first | apply Kd.R_alloc | apply Kd.R_drewN | apply Kd.R_drew)); exact Kd.R_mono HO378.out (fun _ hk => trivial)⟩, ⟨by (with_reducible repeat (first | apply Kd.R_alloc | apply Kd.R_drewN | apply Kd.R_drew)); exact Kd.R_mono HO384.out (fun _ hk => trivial)⟩, ⟨m_0⟩⟩
                 case round =>
                  clear H'
                  obtain ⟨x11_3, x12_3, rfl, HA, HK3, HO_7, HO_11, HB⟩ := hrel
                  cases gk with
                  | zero => exact absurd HA.out (by simp [d13L.l2])
                  | succ k3 =>
                   have H := HA.out
                   clear HA
                   simp only [d13L.l2] at H
                   by_cases c23 : x12_3 < (l0.length : Int)
                   · rw [if_pos c23] at H
                     have c23b0 : decide (x12_3 < (l0.length : Int)) = true := decide_eq_true c23
                     clear c23
                     by_cases c24 : 0 ≤ x12_3
                     · rw [if_pos c24] at H
                       have c24b0 : decide (0 ≤ x12_3) = true := decide_eq_true c24
                       clear c24
                       by_cases c25 : ((rd_T34 l0 x12_3).f0) = 3
                       · rw [if_pos c25] at H
                         have c25b0 : (((rd_T34 l0 x12_3).f0) == 3) = true := beq_iff_eq.mpr c25
                         have c25b1 : (((rd_T34 l0 x12_3).f0) != 3) = false := bne_eq_false_iff_eq.mpr c25
                         clear c25
                         replace H := Option.bind_eq_some_iff.mp H
                         obtain ⟨t386, A260, H⟩ := H
                         replace H : (if t386 < (-4096) then (if x12_3 < (x11_3.length : Int) then (d13L.l2 k3 l0 t376 x8_1 x10_2 (x11_3.set (x12_3 : Int).toNat true) (wrap64 (x12_3 + 1))) else (none)) else ((d13B.f k3 l0 t376 x12_3).bind fun t388 => (if t388 > 4094 then (if x12_3 < (x11_3.length : Int) then (d13L.l2 k3 l0 t376 x8_1 x10_2 (x11_3.set (x12_3 : Int).toNat true) (wrap64 (x12_3 + 1))) else (none)) else (d13L.l2 k3 l0 t376 x8_1 x10_2 x11_3 (wrap64 (x12_3 + 1)))))) = some (r1, r2, r3) := H
                         have A26 := Aside0.mk A260
                         clear A260
                         by_cases c27 : t386 < (-4096)
                         · rw [if_pos c27] at H
                           have c27b0 : decide (t386 < (-4096)) = true := decide_eq_true c27
                           clear c27
                           by_cases c28 : x12_3 < (x11_3.length : Int)
                           · rw [if_pos c28] at H
                             have c28b0 : decide (x12_3 < (x11_3.length : Int)) = true := decide_eq_true c28
                             clear c28
                             obtain ⟨y387, hy_⟩ : ∃ y_ : List Bool, y_ = (x11_3.set (x12_3 : Int).toNat true) := ⟨_, rfl⟩
                             replace H : (d13L.l2 k3 l0 t376 x8_1 x10_2 y387 (wrap64 (x12_3 + 1))) = some (r1, r2, r3) := q_2
                             have Ny387 := Aside0.mk hy_
                             clear hy_
                             have H' := Aside0.mk H
                             clear H
                             have p385 : 0 ≤ (x12_3 : Int) := of_decide_eq_true (m_1)
                             have q385 : x12_3 < (l0.length : Int) := of_decide_eq_true (m_1)
                             obtain ⟨ad385, e385, hx385_0, hx385_1, hx385_2, hx385_3, hx385_4, hx385_5, hx385_6⟩ := at_T34 HR0.out x12_3 p385 q385
                             cases e385
                             obtain ⟨hx385_0, hx385_1, hx385_2, hx385_3, hx385_4, hx385_5, hx385_6⟩ := mv7 HB.out hx385_0 hx385_1 hx385_2 hx385_3 hx385_4 hx385_5 hx385_6
                             replace p385 := eq_true p385
                             replace q385 := eq_true q385
                             obtain ⟨Ao30, co30, eo30⟩ := Kd.R_slice HO_7.out
                             subst eo30
                             go_wp2_with (first | (go_at_call 10; (with_reducible refine (d13B.calls k3 _ _ l0 _ _ t376 x12_3 t386 _ ?side1 ?side2 ?side3 ?side4 A26.out).mono ?_); (case side1 => exact m_15); (case side2 => exact HC0.out); (case side3 => exact m_10); (case side4 => exact (Kd.R_reads' HO_7.out).2.1); rintro e w' ⟨rfl, ⟨nd, rfl⟩⟩; (try (rw [drewN_self wr]; generalize hq_ : World.drewN wr _ = wr; have n0_ : Aside0 (Kd.R Kd.bool 4 wr w.heap.size (fun _ => True) v383 x11_3) := ⟨by rw [← hq_]; exact (m_41)⟩; have n1_ : Aside0 (Kd.R (Kd.int .i64) 3 wr w.heap.size (fun _ => True) (.slice Ao30 t376.length co30) t376) := ⟨by rw [← hq_]; exact (m_9)⟩; have n2_ : Aside0 (Below w.heap.size w wr) := ⟨by rw [← hq_]; exact (m_0)⟩; clear HO_11 HO_7 HB hq_; have HO_11 := n0_; have HO_7 := n1_; have HB := n2_; clear n0_ n1_ n2_)); have p29 : 0 ≤ (x12_3 : Int) := of_decide_eq_true (m_1); have q29 : (x12_3 : Int) < ((x11_3.length : Int) : Int) := of_decide_eq_true (m_1); obtain ⟨go29, co29, eo29, gb29, gl29, cl29, HG29⟩ := Kd.R_form HO_11.out (by omega); (first | cases eo29 | (injection eo29 with ea_ en_ ec_; (first | subst ea_ | (injection ea_ with ea_; subst ea_)); subst ec_; clear en_)); have GB29 := Aside0.mk gb29; have GG29 := Aside0.mk HG29; clear gb29 gl29 HG29; obtain ⟨hx29_0, hf29_0⟩ := Kd.R_celln false HO_11.out (x12_3 : Int) p29 q29; replace p29 := eq_true p29; replace q29 := eq_true q29; obtain ⟨hy31_, hz31_⟩ := Kd.R_celln false HO_11.out (x12_3 : Int) (of_decide_eq_true (m_1)) (of_decide_eq_true (m_1)); have HP31 := Kd.R_putg HO_11.out (x12_3 : Int) true) | ((with_reducible refine gate_store (t := 4) (p := 80) rfl ?_); refine store_event (t := 4) (p := 80) (v := ?vo_w32) (w1 := (wr.setCell ⟨go29, (x12_3 : Int).toNat, none⟩ (.bool true))) ?hg ?ho ?hn ?hr ?_; (case ho => rfl); (case hg => rfl); (case hn => rfl); (case hr => exact m_14); intro w32 hw; have hg : wr.grownBy w32 (some go29) := (by rw [hw]; exact HP31.2); have hp_ : Kd.R Kd.bool 4 w32 w.heap.size (fun _ => True) (.slice (some ⟨go29, 0, none⟩) x11_3.length co29) y387 := (by rw [hw, Ny387.out]; exact HP31.1); clear HP31; have n0_ := Aside0.mk (Kd.R_over' (v := (.slice (some ⟨go29, 0, none⟩) x11_3.length co29)) (m_9) (Kd.R_typed HO_11.out) (by decide) hg); have n1_ := Aside0.mk (hp_); have n2_ := Aside0.mk ((by rw [hw]; exact below_set (HB.out) GB29.out : Below w.heap.size w w32)); clear HO_7; clear HO_11; clear HB; have HO_7 := n0_; have HO_11 := n1_; have HB := n2_; clear n0_ n1_ n2_; clear hg hw hp_))
                             go_roundg k3
                             case measure => have := HK1.out; have := HK2.out; have := HK3.out; omega
                             case rel => exact ⟨(y387), (wrap64 (x12_3 + 1)), (m_5), H', ⟨m_51⟩, ⟨m_9⟩, ⟨m_41⟩, ⟨m_0⟩⟩
                           · rw [if_neg c28] at H
                             exact absurd H (by simp)
                         · rw [if_neg c27] at H
                           have c27b0 : decide (t386 < (-4096)) = false := decide_eq_false c27
                           clear c27
                           replace H := Option.bind_eq_some_iff.mp H
                           obtain ⟨t388, A330, H⟩ := H
                           replace H : (if t388 > 4094 then (if x12_3 < (x11_3.length : Int) then (d13L.l2 k3 l0 t376 x8_1 x10_2 (x11_3.set (x12_3 : Int).toNat true) (wrap64 (x12_3 + 1))) else (none)) else (d13L.l2 k3 l0 t376 x8_1 x10_2 x11_3 (wrap64 (x12_3 + 1)))) = some (r1, r2, r3) := H
                           have A33 := Aside0.mk A330
                           clear A330
                           by_cases c34 : t388 > 4094
                           · rw [if_pos c34] at H
                             have c34b0 : decide (4094 < t388) = true := decide_eq_true c34
                             clear c34
                             by_cases c35 : x12_3 < (x11_3.length : Int)
                             · rw [if_pos c35] at H
                               have c35b0 : decide (x12_3 < (x11_3.length : Int)) = true := decide_eq_true c35
                               clear c35
                               obtain ⟨y389, hy_⟩ : ∃ y_ : List Bool, y_ = (x11_3.set (x12_3 : Int).toNat true) := ⟨_, rfl⟩
                               replace H : (d13L.l2 k3 l0 t376 x8_1 x10_2 y389 (wrap64 (x12_3 + 1))) = some (r1, r2, r3) := q_2
                               have Ny389 := Aside0.mk hy_
                               clear hy_
                               have H' := Aside0.mk H
                               clear H
                               have p385 : 0 ≤ (x12_3 : Int) := of_decide_eq_true (m_1)
                               have q385 : x12_3 < (l0.length : Int) := of_decide_eq_true (m_1)
                               obtain ⟨ad385, e385, hx385_0, hx385_1, hx385_2, hx385_3, hx385_4, hx385_5, hx385_6⟩ := at_T34 HR0.out x12_3 p385 q385
                               cases e385
                               obtain ⟨hx385_0, hx385_1, hx385_2, hx385_3, hx385_4, hx385_5, hx385_6⟩ := mv7 HB.out hx385_0 hx385_1 hx385_2 hx385_3 hx385_4 hx385_5 hx385_6
                               replace p385 := eq_true p385
                               replace q385 := eq_true q385
                               obtain ⟨Ao37, co37, eo37⟩ := Kd.R_slice HO_7.out
                               subst eo37
                               go_wp2_with (first | (go_at_call 10; (with_reducible refine (d13B.calls k3 _ _ l0 _ _ t376 x12_3 t386 _ ?side1 ?side2 ?side3 ?side4 A26.out).mono ?_); (case side1 => exact m_15); (case side2 => exact HC0.out); (case side3 => exact m_10); (case side4 => exact (Kd.R_reads' HO_7.out).2.1); rintro e w' ⟨rfl, ⟨nd, rfl⟩⟩; clear A26; (try (rw [drewN_self wr]; generalize hq_ : World.drewN wr _ = wr; have n0_ : Aside0 (Kd.R Kd.bool 4 wr w.heap.size (fun _ => True) v383 x11_3) := ⟨by rw [← hq_]; exact (m_41)⟩; have n1_ : Aside0 (Kd.R (Kd.int .i64) 3 wr w.heap.size (fun _ => True) (.slice Ao37 t376.length co37) t376) := ⟨by rw [← hq_]; exact (m_9)⟩; have n2_ : Aside0 (Below w.heap.size w wr) := ⟨by rw [← hq_]; exact (m_0)⟩; clear HO_11 HO_7 HB hq_; have HO_11 := n0_; have HO_7 := n1_; have HB := n2_; clear n0_ n1_ n2_))) | (go_at_call 10; (with_reducible refine (d13B.calls k3 _ _ l0 _ _ t376 x12_3 t388 _ ?side1 ?side2 ?side3 ?side4 A33.out).mono ?_); (case side1 => exact m_15); (case side2 => exact HC0.out); (case side3 => exact m_10); (case side4 => exact (Kd.R_reads' HO_7.out).2.1); rintro e w' ⟨rfl, ⟨nd, rfl⟩⟩; clear A33; (try (rw [drewN_self wr]; generalize hq_ : World.drewN wr _ = wr; have n0_ : Aside0 (Kd.R Kd.bool 4 wr w.heap.size (fun _ => True) v383 x11_3) := ⟨by rw [← hq_]; exact (m_41)⟩; have n1_ : Aside0 (Kd.R (Kd.int .i64) 3 wr w.heap.size (fun _ => True) (.slice Ao37 t376.length co37) t376) := ⟨by rw [← hq_]; exact (m_9)⟩; have n2_ : Aside0 (Below w.heap.size w wr) := ⟨by rw [← hq_]; exact (m_0)⟩; clear HO_11 HO_7 HB hq_; have HO_11 := n0_; have HO_7 := n1_; have HB := n2_; clear n0_ n1_ n2_)); have p36 : 0 ≤ (x12_3 : Int) := of_decide_eq_true (m_1); have q36 : (x12_3 : Int) < ((x11_3.length : Int) : Int) := of_decide_eq_true (m_1); obtain ⟨go36, co36, eo36, gb36, gl36, cl36, HG36⟩ := Kd.R_form HO_11.out (by omega); (first | cases eo36 | (injection eo36 with ea_ en_ ec_; (first | subst ea_ | (injection ea_ with ea_; subst ea_)); subst ec_; clear en_)); have GB36 := Aside0.mk gb36; have GG36 := Aside0.mk HG36; clear gb36 gl36 HG36; obtain ⟨hx36_0, hf36_0⟩ := Kd.R_celln false HO_11.out (x12_3 : Int) p36 q36; replace p36 := eq_true p36; replace q36 := eq_true q36; obtain ⟨hy38_, hz38_⟩ := Kd.R_celln false HO_11.out (x12_3 : Int) (of_decide_eq_true (m_1)) (of_decide_eq_true (m_1)); have HP38 := Kd.R_putg HO_11.out (x12_3 : Int) true) | ((with_reducible refine gate_store (t := 4) (p := 80) rfl ?_); refine store_event (t := 4) (p := 80) (v := ?vo_w39) (w1 := (wr.setCell ⟨go36, (x12_3 : Int).toNat, none⟩ (.bool true))) ?hg ?ho ?hn ?hr ?_; (case ho => rfl); (case hg => rfl); (case hn => rfl); (case hr => exact m_14); intro w39 hw; have hg : wr.grownBy w39 (some go36) := (by rw [hw]; exact HP38.2); have hp_ : Kd.R Kd.bool 4 w39 w.heap.size (fun _ => True) (.slice (some ⟨go36, 0, none⟩) x11_3.length co36) y389 := (by rw [hw, Ny389.out]; exact HP38.1); clear HP38; have n0_ := Aside0.mk (Kd.R_over' (v := (.slice (some ⟨go36, 0, none⟩) x11_3.length co36)) (m_9) (Kd.R_typed HO_11.out) (by decide) hg); have n1_ := Aside0.mk (hp_); have n2_ := Aside0.mk ((by rw [hw]; exact below_set (HB.out) GB36.out : Below w.heap.size w w39)); clear HO_7; clear HO_11; clear HB; have HO_7 := n0_; have HO_11 := n1_; have HB := n2_; clear n0_ n1_ n2_; clear hg hw hp_))
                               go_roundg k3
                               case measure => have := HK1.out; have := HK2.out; have := HK3.out; omega
                               case rel => exact ⟨(y389), (wrap64 (x12_3 + 1)), (m_5), H', ⟨m_51⟩, ⟨m_9⟩, ⟨m_41⟩, ⟨m_0⟩⟩
                             · rw [if_neg c35] at H
                               exact absurd H (by simp)
                           · rw [if_neg c34] at H
                             have c34b0 : decide (4094 < t388) = false := decide_eq_false c34
                             clear c34
                             have H' := Aside0.mk H
                             clear H
                             have p385 : 0 ≤ (x12_3 : Int) := of_decide_eq_true (m_1)
                             have q385 : x12_3 < (l0.length : Int) := of_decide_eq_true (m_1)
                             obtain ⟨ad385, e385, hx385_0, hx385_1, hx385_2, hx385_3, hx385_4, hx385_5, hx385_6⟩ := at_T34 HR0.out x12_3 p385 q385
                             cases e385
                             obtain ⟨hx385_0, hx385_1, hx385_2, hx385_3, hx385_4, hx385_5, hx385_6⟩ := mv7 HB.out hx385_0 hx385_1 hx385_2 hx385_3 hx385_4 hx385_5 hx385_6
                             replace p385 := eq_true p385
                             replace q385 := eq_true q385
                             obtain ⟨Ao40, co40, eo40⟩ := Kd.R_slice HO_7.out
                             subst eo40
                             go_wp2_with (first | (go_at_call 10; (with_reducible refine (d13B.calls k3 _ _ l0 _ _ t376 x12_3 t386 _ ?side1 ?side2 ?side3 ?side4 A26.out).mono ?_); (case side1 => exact m_15); (case side2 => exact HC0.out); (case side3 => exact m_10); (case side4 => exact (Kd.R_reads' HO_7.out).2.1); rintro e w' ⟨rfl, ⟨nd, rfl⟩⟩; clear A26) | (go_at_call 10; (with_reducible refine (d13B.calls k3 _ _ l0 _ _ t376 x12_3 t388 _ ?side1 ?side2 ?side3 ?side4 A33.out).mono ?_); (case side1 => exact m_22); (case side2 => exact HC0.out); (case side3 => exact m_10); (case side4 => exact (Kd.R_reads' HO_7.out).2.1); rintro e w' ⟨rfl, ⟨nd, rfl⟩⟩; clear A33))
                             go_roundg k3
                             case measure => have := HK1.out; have := HK2.out; have := HK3.out; omega
                             case rel => exact ⟨(x11_3), (wrap64 (x12_3 + 1)), (m_5), H', ⟨m_51⟩, ⟨m_9⟩, ⟨m_41⟩, ⟨m_0⟩⟩
                       · rw [if_neg c25] at H
                         have c25b0 : (((rd_T34 l0 x12_3).f0) == 3) = false := beq_eq_false_iff_ne.mpr c25
                         have c25b1 : (((rd_T34 l0 x12_3).f0) != 3) = true := bne_iff_ne.mpr c25
                         have H' := Aside0.mk H
                         clear H
                         have p385 : 0 ≤ (x12_3 : Int) := of_decide_eq_true (m_1)
                         have q385 : x12_3 < (l0.length : Int) := of_decide_eq_true (m_1)
                         obtain ⟨ad385, e385, hx385_0, hx385_1, hx385_2, hx385_3, hx385_4, hx385_5, hx385_6⟩ := at_T34 HR0.out x12_3 p385 q385
                         cases e385
                         obtain ⟨hx385_0, hx385_1, hx385_2, hx385_3, hx385_4, hx385_5, hx385_6⟩ := mv7 HB.out hx385_0 hx385_1 hx385_2 hx385_3 hx385_4 hx385_5 hx385_6
                         replace p385 := eq_true p385
                         replace q385 := eq_true q385
                         go_wp2
                         go_roundg k3
                         case measure => have := HK1.out; have := HK2.out; have := HK3.out; omega
                         case rel => exact ⟨(x11_3), (wrap64 (x12_3 + 1)), (m_5), H', ⟨m_51⟩, ⟨m_9⟩, ⟨m_41⟩, ⟨m_0⟩⟩
                     · rw [if_neg c24] at H
                       exact absurd H (by simp)
                   · rw [if_neg c23] at H
                     have c23b0 : decide (x12_3 < (l0.length : Int)) = false := decide_eq_false c23
                     clear c23
                     have H' := Aside0.mk H
                     clear H
                     go_wp2
                     go_roundg k3
                     case measure => have := HK1.out; have := HK2.out; have := HK3.out; omega
                     case rel => exact ⟨(x11_3), (t376), (wrap64 (x10_2 + 1)), (m_5), H', ⟨m_51⟩, ⟨m_41⟩, ⟨m_9⟩, ⟨m_0⟩⟩
               · rw [if_neg c17] at H
                 exact absurd H (by simp)
             · rw [if_neg c15] at H
               have c15b0 : decide (x10_2 ≤ x8_1) = false := decide_eq_false c15
               clear c15
               have H' := Aside0.mk H
               clear H
               go_wp2
               go_loopg [13] k2 (fun kq v13 w' => ∃ (x13_3 : Int), v13 = .int .i64 x13_3 ∧ Aside0 (d13L.l3 kq l0 x6_2 x7_2 x13_3 = some (r1, r2, r3)) ∧ Aside0 (kq ≤ k2) ∧ Aside0 (Kd.R Kd.bool 4 w' w.heap.size (fun _ => True) u6 x6_2) ∧ Aside0 (Kd.R (Kd.int .i64) 3 w' w.heap.size (fun _ => True) u7 x7_2) ∧ Aside0 (Below w.heap.size w w'))
               case atStart => exact ⟨(0), (m_5), H', ⟨Nat.le_refl _⟩, ⟨m_12⟩, ⟨m_9⟩, ⟨m_0⟩⟩
               case round =>
                clear H'
                obtain ⟨x13_3, rfl, HA, HK3, HO_6, HO_7, HB⟩ := hrel
                cases gk with
                | zero => exact absurd HA.out (by simp [d13L.l3])
                | succ k3 =>
                 have H := HA.out
                 clear HA
                 simp only [d13L.l3] at H
                 by_cases c41 : x13_3 < (l0.length : Int)
                 · rw [if_pos c41] at H
                   have c41b0 : decide (x13_3 < (l0.length : Int)) = true := decide_eq_true c41
                   clear c41
                   by_cases c42 : 0 ≤ x13_3
                   · rw [if_pos c42] at H
                     have c42b0 : decide (0 ≤ x13_3) = true := decide_eq_true c42
                     clear c42
                     by_cases c43 : ((rd_T34 l0 x13_3).f0) = 4
                     · rw [if_pos c43] at H
                       have c43b0 : (((rd_T34 l0 x13_3).f0) == 4) = true := beq_iff_eq.mpr c43
                       have c43b1 : (((rd_T34 l0 x13_3).f0) != 4) = false := bne_eq_false_iff_eq.mpr c43
                       clear c43
                       replace H := Option.bind_eq_some_iff.mp H
                       obtain ⟨t391, A440, H⟩ := H
                       replace H : (if t391 < (-1048576) then (some ((([] : List Int)), (([] : List Bool)), 7)) else ((d13B.f k3 l0 x7_2 x13_3).bind fun t398 => (if t398 > 1048574 then (some ((([] : List Int)), (([] : List Bool)), 7)) else (if x13_3 < (x6_2.length : Int) then (if rdOf false x6_2 x13_3 = true then ((d13B.f k3 l0 x7_2 x13_3).bind fun t406 => (if t406 < (-1048572) then (some ((([] : List Int)), (([] : List Bool)), 7)) else ((d13B.f k3 l0 x7_2 x13_3).bind fun t413 => (if t413 > 1048578 then (some ((([] : List Int)), (([] : List Bool)), 7)) else (d13L.l3 k3 l0 x6_2 x7_2 (wrap64 (x13_3 + 1))))))) else (d13L.l3 k3 l0 x6_2 x7_2 (wrap64 (x13_3 + 1)))) else (none))))) = some (r1, r2, r3) := H
                       have A44 := Aside0.mk A440
                       clear A440
                       by_cases c45 : t391 < (-1048576)
                       · rw [if_pos c45] at H
                         have c45b0 : decide (t391 < (-1048576)) = true := decide_eq_true c45
                         clear c45
                         obtain ⟨y392, hy_⟩ : ∃ y_ : List Int, y_ = (([] : List Int)) := ⟨_, rfl⟩
                         replace H : (some (y392, (([] : List Bool)), 7)) = some (r1, r2, r3) := q_2
                         have Ny392 := Aside0.mk hy_
                         clear hy_
                         obtain ⟨y395, hy_⟩ : ∃ y_ : List Bool, y_ = (([] : List Bool)) := ⟨_, rfl⟩
                         replace H : (some (y392, y395, 7)) = some (r1, r2, r3) := q_2
                         have Ny395 := Aside0.mk hy_
                         clear hy_
                         simp only [Option.some.injEq, Prod.mk.injEq] at H
                         obtain ⟨rfl, rfl, rfl⟩ := H
                         have p390 : 0 ≤ (x13_3 : Int) := of_decide_eq_true (m_1)
                         have q390 : x13_3 < (l0.length : Int) := of_decide_eq_true (m_1)
                         obtain ⟨ad390, e390, hx390_0, hx390_1, hx390_2, hx390_3, hx390_4, hx390_5, hx390_6⟩ := at_T34 HR0.out x13_3 p390 q390
                         cases e390
                         obtain ⟨hx390_0, hx390_1, hx390_2, hx390_3, hx390_4, hx390_5, hx390_6⟩ := mv7 HB.out hx390_0 hx390_1 hx390_2 hx390_3 hx390_4 hx390_5 hx390_6
                         replace p390 := eq_true p390
                         replace q390 := eq_true q390
                         obtain ⟨Ao46, co46, eo46⟩ := Kd.R_slice HO_7.out
                         subst eo46
                         go_wp2_with (first | (go_at_call 10; (with_reducible refine (d13B.calls k3 _ _ l0 _ _ x7_2 x13_3 t391 _ ?side1 ?side2 ?side3 ?side4 A44.out).mono ?_); (case side1 => exact m_15); (case side2 => exact HC0.out); (case side3 => exact m_10); (case side4 => exact (Kd.R_reads' HO_7.out).2.1); rintro e w' ⟨rfl, ⟨nd, rfl⟩⟩) | ((with_reducible refine gate_dst (N := 128) rfl ?_); refine Kd.R_lit (Kd.int .i64) _ 3 ?hg (N := 128) ?hd (xs := ([] : List Int)) (inner := []) (ok := fun _ => True) (okp := fun _ => True) ?hr ?hp (fun _ hk => hk) trivial (Below.refl _ _) (Nat.le_refl _) (by simp) ?_; (case hd => rfl); (case hg => rfl); (case hr => exact m_14); (case hp => exact (Reps.none _ _)); intro v393 w47 ho48 hb hg_ hnew_; clear hg_ hnew_; (first | rw [← Ny392.out] at ho48 | (simp only [Int.reduceToNat] at ho48; rw [← Ny392.out] at ho48)); have n0_ := Aside0.mk (Kd.R_below (m_12) hb); have n1_ := Aside0.mk (Kd.R_elder' (m_9) (Kd.R_base ho48) hb); have n2_ := Aside0.mk (Kd.R_lower (Kd.R_new' ho48 (Kd.R_lt (m_9))) (below_size (m_0))); have n3_ := Aside0.mk (below_step (m_0) hb); clear HO_6; clear HO_7; clear HB; have HO_6 := n0_; have HO_7 := n1_; have HO394 := n2_; have HB := n3_; clear n0_ n1_ n2_ n3_; clear hb ho48) | ((with_reducible refine gate_dst (N := 129) rfl ?_); refine Kd.R_lit Kd.bool _ 4 ?hg (N := 129) ?hd (xs := ([] : List Bool)) (inner := []) (ok := fun _ => True) (okp := fun _ => True) ?hr ?hp (fun _ hk => hk) trivial (Below.refl _ _) (Nat.le_refl _) (by simp) ?_; (case hd => rfl); (case hg => rfl); (case hr => exact m_14); (case hp => exact (Reps.none _ _)); intro v396 w49 ho50 hb hg_ hnew_; clear hg_ hnew_; (first | rw [← Ny395.out] at ho50 | (simp only [Int.reduceToNat] at ho50; rw [← Ny395.out] at ho50)); have n0_ := Aside0.mk (Kd.R_elder' (m_12) (Kd.R_base ho50) hb); have n1_ := Aside0.mk (Kd.R_below (m_9) hb); have n2_ := Aside0.mk (Kd.R_below (by (with_reducible repeat (first | apply Kd.R_alloc | apply Kd.R_drewN | apply Kd.R_drew)); exact HO394.out) hb); have n3_ := Aside0.mk (Kd.R_lower (Kd.R_new' ho50 (Kd.R_lt (m_12))) (below_size (m_0))); have n4_ := Aside0.mk (below_step (m_0) hb); clear HO_6; clear HO_7; clear HO394; clear HB; have HO_6 := n0_; have HO_7 := n1_; have HO394 := n2_; have HO397 := n3_; have HB := n4_; clear n0_ n1_ n2_ n3_ n4_; clear hb ho50))
                         go_ret3
                         exact ⟨_, _, m_3, by (with_reducible repeat (first | apply Kd.R_alloc | apply Kd.R_drewN | apply Kd.R_drew)); exact Kd.R_mono HO394.out (fun _ hk => trivial), by (with_reducible repeat (first | apply Kd.R_alloc | apply Kd.R_drewN | apply Kd.R_drew)); exact Kd.R_mono HO397.out (fun _ hk => trivial), m_0⟩
                       · rw [if_neg c45] at H
                         have c45b0 : decide (t391 < (-1048576)) = false := decide_eq_false c45
                         clear c45
                         replace H := Option.bind_eq_some_iff.mp H
                         obtain ⟨t398, A510, H⟩ := H
                         replace H : (if t398 > 1048574 then (some ((([] : List Int)), (([] : List Bool)), 7)) else (if x13_3 < (x6_2.length : Int) then (if rdOf false x6_2 x13_3 = true then ((d13B.f k3 l0 x7_2 x13_3).bind fun t406 => (if t406 < (-1048572) then (some ((([] : List Int)), (([] : List Bool)), 7)) else ((d13B.f k3 l0 x7_2 x13_3).bind fun t413 => (if t413 > 1048578 then (some ((([] : List Int)), (([] : List Bool)), 7)) else (d13L.l3 k3 l0 x6_2 x7_2 (wrap64 (x13_3 + 1))))))) else (d13L.l3 k3 l0 x6_2 x7_2 (wrap64 (x13_3 + 1)))) else (none))) = some (r1, r2, r3) := H
                         have A51 := Aside0.mk A510
                         clear A510
                         by_cases c52 : t398 > 1048574
                         · rw [if_pos c52] at H
                           have c52b0 : decide (1048574 < t398) = true := decide_eq_true c52
                           clear c52
                           obtain ⟨y399, hy_⟩ : ∃ y_ : List Int, y_ = (([] : List Int)) := ⟨_, rfl⟩
                           replace H : (some (y399, (([] : List Bool)), 7)) = some (r1, r2, r3) := q_2
                           have Ny399 := Aside0.mk hy_
                           clear hy_
                           obtain ⟨y402, hy_⟩ : ∃ y_ : List Bool, y_ = (([] : List Bool)) := ⟨_, rfl⟩
                           replace H : (some (y399, y402, 7)) = some (r1, r2, r3) := q_2
                           have Ny402 := Aside0.mk hy_
                           clear hy_
                           simp only [Option.some.injEq, Prod.mk.injEq] at H
                           obtain ⟨rfl, rfl, rfl⟩ := H
                           have p390 : 0 ≤ (x13_3 : Int) := of_decide_eq_true (m_1)
                           have q390 : x13_3 < (l0.length : Int) := of_decide_eq_true (m_1)
                           obtain ⟨ad390, e390, hx390_0, hx390_1, hx390_2, hx390_3, hx390_4, hx390_5, hx390_6⟩ := at_T34 HR0.out x13_3 p390 q390
                           cases e390
                           obtain ⟨hx390_0, hx390_1, hx390_2, hx390_3, hx390_4, hx390_5, hx390_6⟩ := mv7 HB.out hx390_0 hx390_1 hx390_2 hx390_3 hx390_4 hx390_5 hx390_6
                           replace p390 := eq_true p390
                           replace q390 := eq_true q390
                           obtain ⟨Ao53, co53, eo53⟩ := Kd.R_slice HO_7.out
                           subst eo53
                           go_wp2_with (first | (go_at_call 10; (with_reducible refine (d13B.calls k3 _ _ l0 _ _ x7_2 x13_3 t391 _ ?side1 ?side2 ?side3 ?side4 A44.out).mono ?_); (case side1 => exact m_15); (case side2 => exact HC0.out); (case side3 => exact m_10); (case side4 => exact (Kd.R_reads' HO_7.out).2.1); rintro e w' ⟨rfl, ⟨nd, rfl⟩⟩; clear A44) | (go_at_call 10; (with_reducible refine (d13B.calls k3 _ _ l0 _ _ x7_2 x13_3 t398 _ ?side1 ?side2 ?side3 ?side4 A51.out).mono ?_); (case side1 => exact m_22); (case side2 => exact HC0.out); (case side3 => exact m_10); (case side4 => exact (Kd.R_reads' HO_7.out).2.1); rintro e w' ⟨rfl, ⟨nd, rfl⟩⟩; clear A51) | ((with_reducible refine gate_dst (N := 128) rfl ?_); refine Kd.R_lit (Kd.int .i64) _ 3 ?hg (N := 128) ?hd (xs := ([] : List Int)) (inner := []) (ok := fun _ => True) (okp := fun _ => True) ?hr ?hp (fun _ hk => hk) trivial (Below.refl _ _) (Nat.le_refl _) (by simp) ?_; (case hd => rfl); (case hg => rfl); (case hr => exact m_14); (case hp => exact (Reps.none _ _)); intro v400 w54 ho55 hb hg_ hnew_; clear hg_ hnew_; (first | rw [← Ny399.out] at ho55 | (simp only [Int.reduceToNat] at ho55; rw [← Ny399.out] at ho55)); have n0_ := Aside0.mk (Kd.R_below (m_12) hb); have n1_ := Aside0.mk (Kd.R_elder' (m_9) (Kd.R_base ho55) hb); have n2_ := Aside0.mk (Kd.R_lower (Kd.R_new' ho55 (Kd.R_lt (m_9))) (below_size (m_0))); have n3_ := Aside0.mk (below_step (m_0) hb); clear HO_6; clear HO_7; clear HB; have HO_6 := n0_; have HO_7 := n1_; have HO401 := n2_; have HB := n3_; clear n0_ n1_ n2_ n3_; clear hb ho55) | ((with_reducible refine gate_dst (N := 129) rfl ?_); refine Kd.R_lit Kd.bool _ 4 ?hg (N := 129) ?hd (xs := ([] : List Bool)) (inner := []) (ok := fun _ => True) (okp := fun _ => True) ?hr ?hp (fun _ hk => hk) trivial (Below.refl _ _) (Nat.le_refl _) (by simp) ?_; (case hd => rfl); (case hg => rfl); (case hr => exact m_14); (case hp => exact (Reps.none _ _)); intro v403 w56 ho57 hb hg_ hnew_; clear hg_ hnew_; (first | rw [← Ny402.out] at ho57 | (simp only [Int.reduceToNat] at ho57; rw [← Ny402.out] at ho57)); have n0_ := Aside0.mk (Kd.R_elder' (m_12) (Kd.R_base ho57) hb); have n1_ := Aside0.mk (Kd.R_below (m_9) hb); have n2_ := Aside0.mk (Kd.R_below (by (with_reducible repeat (first | apply Kd.R_alloc | apply Kd.R_drewN | apply Kd.R_drew)); exact HO401.out) hb); have n3_ := Aside0.mk (Kd.R_lower (Kd.R_new' ho57 (Kd.R_lt (m_12))) (below_size (m_0))); have n4_ := Aside0.mk (below_step (m_0) hb); clear HO_6; clear HO_7; clear HO401; clear HB; have HO_6 := n0_; have HO_7 := n1_; have HO401 := n2_; have HO404 := n3_; have HB := n4_; clear n0_ n1_ n2_ n3_ n4_; clear hb ho57))
                           go_ret3
                           exact ⟨_, _, m_3, by (with_reducible repeat (first | apply Kd.R_alloc | apply Kd.R_drewN | apply Kd.R_drew)); exact Kd.R_mono HO401.out (fun _ hk => trivial), by (with_reducible repeat (first | apply Kd.R_alloc | apply Kd.R_drewN | apply Kd.R_drew)); exact Kd.R_mono HO404.out (fun _ hk => trivial), m_0⟩
                         · rw [if_neg c52] at H
                           have c52b0 : decide (1048574 < t398) = false := decide_eq_false c52
                           clear c52
                           by_cases c58 : x13_3 < (x6_2.length : Int)
                           · rw [if_pos c58] at H
                             have c58b0 : decide (x13_3 < (x6_2.length : Int)) = true := decide_eq_true c58
                             clear c58
                             obtain ⟨bq59, hbq59⟩ : ∃ b_ : Bool, b_ = (rdOf false x6_2 x13_3) := ⟨_, rfl⟩
                             replace H : (if bq59 = true then ((d13B.f k3 l0 x7_2 x13_3).bind fun t406 => (if t406 < (-1048572) then (some ((([] : List Int)), (([] : List Bool)), 7)) else ((d13B.f k3 l0 x7_2 x13_3).bind fun t413 => (if t413 > 1048578 then (some ((([] : List Int)), (([] : List Bool)), 7)) else (d13L.l3 k3 l0 x6_2 x7_2 (wrap64 (x13_3 + 1))))))) else (d13L.l3 k3 l0 x6_2 x7_2 (wrap64 (x13_3 + 1)))) = some (r1, r2, r3) := by rw [← hbq59] at H; exact H
                             have Nbq59 := Aside0.mk hbq59
                             clear hbq59
                             by_cases c60 : bq59 = true
                             · subst c60
                               have H1 : ((d13B.f k3 l0 x7_2 x13_3).bind fun t406 => (if t406 < (-1048572) then (some ((([] : List Int)), (([] : List Bool)), 7)) else ((d13B.f k3 l0 x7_2 x13_3).bind fun t413 => (if t413 > 1048578 then (some ((([] : List Int)), (([] : List Bool)), 7)) else (d13L.l3 k3 l0 x6_2 x7_2 (wrap64 (x13_3 + 1))))))) = some (r1, r2, r3) := by rw [if_pos rfl] at H; exact H
                               clear H
                               have H := H1
                               clear H1
                               replace H := Option.bind_eq_some_iff.mp H
                               obtain ⟨t406, A610, H⟩ := H
                               replace H : (if t406 < (-1048572) then (some ((([] : List Int)), (([] : List Bool)), 7)) else ((d13B.f k3 l0 x7_2 x13_3).bind fun t413 => (if t413 > 1048578 then (some ((([] : List Int)), (([] : List Bool)), 7)) else (d13L.l3 k3 l0 x6_2 x7_2 (wrap64 (x13_3 + 1)))))) = some (r1, r2, r3) := H
                               have A61 := Aside0.mk A610
                               clear A610
                               by_cases c62 : t406 < (-1048572)
                               · rw [if_pos c62] at H
                                 have c62b0 : decide (t406 < (-1048572)) = true := decide_eq_true c62
                                 clear c62
                                 obtain ⟨y407, hy_⟩ : ∃ y_ : List Int, y_ = (([] : List Int)) := ⟨_, rfl⟩
                                 replace H : (some (y407, (([] : List Bool)), 7)) = some (r1, r2, r3) := q_2
                                 have Ny407 := Aside0.mk hy_
                                 clear hy_
                                 obtain ⟨y410, hy_⟩ : ∃ y_ : List Bool, y_ = (([] : List Bool)) := ⟨_, rfl⟩
                                 replace H : (some (y407, y410, 7)) = some (r1, r2, r3) := q_2
                                 have Ny410 := Aside0.mk hy_
                                 clear hy_
                                 simp only [Option.some.injEq, Prod.mk.injEq] at H
                                 obtain ⟨rfl, rfl, rfl⟩ := H
                                 have p390 : 0 ≤ (x13_3 : Int) := of_decide_eq_true (m_1)
                                 have q390 : x13_3 < (l0.length : Int) := of_decide_eq_true (m_1)
                                 obtain ⟨ad390, e390, hx390_0, hx390_1, hx390_2, hx390_3, hx390_4, hx390_5, hx390_6⟩ := at_T34 HR0.out x13_3 p390 q390
                                 cases e390
                                 obtain ⟨hx390_0, hx390_1, hx390_2, hx390_3, hx390_4, hx390_5, hx390_6⟩ := mv7 HB.out hx390_0 hx390_1 hx390_2 hx390_3 hx390_4 hx390_5 hx390_6
                                 replace p390 := eq_true p390
                                 replace q390 := eq_true q390
                                 obtain ⟨Ao63, co63, eo63⟩ := Kd.R_slice HO_7.out
                                 subst eo63
                                 go_wp2_with (first | (go_at_call 10; (with_reducible refine (d13B.calls k3 _ _ l0 _ _ x7_2 x13_3 t391 _ ?side1 ?side2 ?side3 ?side4 A44.out).mono ?_); (case side1 => exact m_15); (case side2 => exact HC0.out); (case side3 => exact m_10); (case side4 => exact (Kd.R_reads' HO_7.out).2.1); rintro e w' ⟨rfl, ⟨nd, rfl⟩⟩; clear A44) | (go_at_call 10; (with_reducible refine (d13B.calls k3 _ _ l0 _ _ x7_2 x13_3 t398 _ ?side1 ?side2 ?side3 ?side4 A51.out).mono ?_); (case side1 => exact m_22); (case side2 => exact HC0.out); (case side3 => exact m_10); (case side4 => exact (Kd.R_reads' HO_7.out).2.1); rintro e w' ⟨rfl, ⟨nd, rfl⟩⟩; clear A51; obtain ⟨Ao64, co64, eo64⟩ := Kd.R_slice HO_6.out; subst eo64; have p405 : 0 ≤ (x13_3 : Int) := of_decide_eq_true (m_1); have q405 : x13_3 < (x6_2.length : Int) := of_decide_eq_true (m_1); obtain ⟨ad405, e405, hx405_0⟩ := Kd.at_bool (Kd.R_reads' HO_6.out).2.2 x13_3 p405 q405; (try rw [← Nbq59.out] at hx405_0); cases e405; replace p405 := eq_true p405; replace q405 := eq_true q405) | (go_at_call 10; (with_reducible refine (d13B.calls k3 _ _ l0 _ _ x7_2 x13_3 t406 _ ?side1 ?side2 ?side3 ?side4 A61.out).mono ?_); (case side1 => exact m_22); (case side2 => exact HC0.out); (case side3 => exact m_10); (case side4 => exact (Kd.R_reads' HO_7.out).2.1); rintro e w' ⟨rfl, ⟨nd, rfl⟩⟩; clear A61) | ((with_reducible refine gate_dst (N := 128) rfl ?_); refine Kd.R_lit (Kd.int .i64) _ 3 ?hg (N := 128) ?hd (xs := ([] : List Int)) (inner := []) (ok := fun _ => True) (okp := fun _ => True) ?hr ?hp (fun _ hk => hk) trivial (Below.refl _ _) (Nat.le_refl _) (by simp) ?_; (case hd => rfl); (case hg => rfl); (case hr => exact m_14); (case hp => exact (Reps.none _ _)); intro v408 w65 ho66 hb hg_ hnew_; clear hg_ hnew_; (first | rw [← Ny407.out] at ho66 | (simp only [Int.reduceToNat] at ho66; rw [← Ny407.out] at ho66)); have n0_ := Aside0.mk (Kd.R_below (m_12) hb); have n1_ := Aside0.mk (Kd.R_elder' (m_9) (Kd.R_base ho66) hb); have n2_ := Aside0.mk (Kd.R_lower (Kd.R_new' ho66 (Kd.R_lt (m_9))) (below_size (m_0))); have n3_ := Aside0.mk (below_step (m_0) hb); clear HO_6; clear HO_7; clear HB; have HO_6 := n0_; have HO_7 := n1_; have HO409 := n2_; have HB := n3_; clear n0_ n1_ n2_ n3_; clear hb ho66) | ((with_reducible refine gate_dst (N := 129) rfl ?_); refine Kd.R_lit Kd.bool _ 4 ?hg (N := 129) ?hd (xs := ([] : List Bool)) (inner := []) (ok := fun _ => True) (okp := fun _ => True) ?hr ?hp (fun _ hk => hk) trivial (Below.refl _ _) (Nat.le_refl _) (by simp) ?_; (case hd => rfl); (case hg => rfl); (case hr => exact m_14); (case hp => exact (Reps.none _ _)); intro v411 w67 ho68 hb hg_ hnew_; clear hg_ hnew_; (first | rw [← Ny410.out] at ho68 | (simp only [Int.reduceToNat] at ho68; rw [← Ny410.out] at ho68)); have n0_ := Aside0.mk (Kd.R_elder' (m_12) (Kd.R_base ho68) hb); have n1_ := Aside0.mk (Kd.R_below (m_9) hb); have n2_ := Aside0.mk (Kd.R_below (by (with_reducible repeat (first | apply Kd.R_alloc | apply Kd.R_drewN | apply Kd.R_drew)); exact HO409.out) hb); have n3_ := Aside0.mk (Kd.R_lower (Kd.R_new' ho68 (Kd.R_lt (m_12))) (below_size (m_0))); have n4_ := Aside0.mk (below_step (m_0) hb); clear HO_6; clear HO_7; clear HO409; clear HB; have HO_6 := n0_; have HO_7 := n1_; have HO409 := n2_; have HO412 := n3_; have HB := n4_; clear n0_ n1_ n2_ n3_ n4_; clear hb ho68))
                                 go_ret3
                                 exact ⟨_, _, m_3, by (with_reducible repeat (first | apply Kd.R_alloc | apply Kd.R_drewN | apply Kd.R_drew)); exact Kd.R_mono HO409.out (fun _ hk => trivial), by (with_reducible repeat (first | apply Kd.R_alloc | apply Kd.R_drewN | apply Kd.R_drew)); exact Kd.R_mono HO412.out (fun _ hk => trivial), m_0⟩
                               · rw [if_neg c62] at H
                                 have c62b0 : decide (t406 < (-1048572)) = false := decide_eq_false c62
                                 clear c62
                                 replace H := Option.bind_eq_some_iff.mp H
                                 obtain ⟨t413, A690, H⟩ := H
                                 replace H : (if t413 > 1048578 then (some ((([] : List Int)), (([] : List Bool)), 7)) else (d13L.l3 k3 l0 x6_2 x7_2 (wrap64 (x13_3 + 1)))) = some (r1, r2, r3) := H
                                 have A69 := Aside0.mk A690
                                 clear A690
                                 by_cases c70 : t413 > 1048578
                                 · rw [if_pos c70] at H
                                   have c70b0 : decide (1048578 < t413) = true := decide_eq_true c70
                                   clear c70
                                   obtain ⟨y414, hy_⟩ : ∃ y_ : List Int, y_ = (([] : List Int)) := ⟨_, rfl⟩
                                   replace H : (some (y414, (([] : List Bool)), 7)) = some (r1, r2, r3) := q_2
                                   have Ny414 := Aside0.mk hy_
                                   clear hy_
                                   obtain ⟨y417, hy_⟩ : ∃ y_ : List Bool, y_ = (([] : List Bool)) := ⟨_, rfl⟩
                                   replace H : (some (y414, y417, 7)) = some (r1, r2, r3) := q_2
                                   have Ny417 := Aside0.mk hy_
                                   clear hy_
                                   simp only [Option.some.injEq, Prod.mk.injEq] at H
                                   obtain ⟨rfl, rfl, rfl⟩ := H
                                   have p390 : 0 ≤ (x13_3 : Int) := of_decide_eq_true (m_1)
                                   have q390 : x13_3 < (l0.length : Int) := of_decide_eq_true (m_1)
                                   obtain ⟨ad390, e390, hx390_0, hx390_1, hx390_2, hx390_3, hx390_4, hx390_5, hx390_6⟩ := at_T34 HR0.out x13_3 p390 q390
                                   cases e390
                                   obtain ⟨hx390_0, hx390_1, hx390_2, hx390_3, hx390_4, hx390_5, hx390_6⟩ := mv7 HB.out hx390_0 hx390_1 hx390_2 hx390_3 hx390_4 hx390_5 hx390_6
                                   replace p390 := eq_true p390
                                   replace q390 := eq_true q390
                                   obtain ⟨Ao71, co71, eo71⟩ := Kd.R_slice HO_7.out
                                   subst eo71
                                   go_wp2_with (first | (go_at_call 10; (with_reducible refine (d13B.calls k3 _ _ l0 _ _ x7_2 x13_3 t391 _ ?side1 ?side2 ?side3 ?side4 A44.out).mono ?_); (case side1 => exact m_15); (case side2 => exact HC0.out); (case side3 => exact m_10); (case side4 => exact (Kd.R_reads' HO_7.out).2.1); rintro e w' ⟨rfl, ⟨nd, rfl⟩⟩; clear A44) | (go_at_call 10; (with_reducible refine (d13B.calls k3 _ _ l0 _ _ x7_2 x13_3 t398 _ ?side1 ?side2 ?side3 ?side4 A51.out).mono ?_); (case side1 => exact m_22); (case side2 => exact HC0.out); (case side3 => exact m_10); (case side4 => exact (Kd.R_reads' HO_7.out).2.1); rintro e w' ⟨rfl, ⟨nd, rfl⟩⟩; clear A51; obtain ⟨Ao72, co72, eo72⟩ := Kd.R_slice HO_6.out; subst eo72; have p405 : 0 ≤ (x13_3 : Int) := of_decide_eq_true (m_1); have q405 : x13_3 < (x6_2.length : Int) := of_decide_eq_true (m_1); obtain ⟨ad405, e405, hx405_0⟩ := Kd.at_bool (Kd.R_reads' HO_6.out).2.2 x13_3 p405 q405; (try rw [← Nbq59.out] at hx405_0); cases e405; replace p405 := eq_true p405; replace q405 := eq_true q405) | (go_at_call 10; (with_reducible refine (d13B.calls k3 _ _ l0 _ _ x7_2 x13_3 t406 _ ?side1 ?side2 ?side3 ?side4 A61.out).mono ?_); (case side1 => exact m_22); (case side2 => exact HC0.out); (case side3 => exact m_10); (case side4 => exact (Kd.R_reads' HO_7.out).2.1); rintro e w' ⟨rfl, ⟨nd, rfl⟩⟩; clear A61) | (go_at_call 10; (with_reducible refine (d13B.calls k3 _ _ l0 _ _ x7_2 x13_3 t413 _ ?side1 ?side2 ?side3 ?side4 A69.out).mono ?_); (case side1 => exact m_22); (case side2 => exact HC0.out); (case side3 => exact m_10); (case side4 => exact (Kd.R_reads' HO_7.out).2.1); rintro e w' ⟨rfl, ⟨nd, rfl⟩⟩; clear A69) | ((with_reducible refine gate_dst (N := 128) rfl ?_); refine Kd.R_lit (Kd.int .i64) _ 3 ?hg (N := 128) ?hd (xs := ([] : List Int)) (inner := []) (ok := fun _ => True) (okp := fun _ => True) ?hr ?hp (fun _ hk => hk) trivial (Below.refl _ _) (Nat.le_refl _) (by simp) ?_; (case hd => rfl); (case hg => rfl); (case hr => exact m_14); (case hp => exact (Reps.none _ _)); intro v415 w73 ho74 hb hg_ hnew_; clear hg_ hnew_; (first | rw [← Ny414.out] at ho74 | (simp only [Int.reduceToNat] at ho74; rw [← Ny414.out] at ho74)); have n0_ := Aside0.mk (Kd.R_below (m_12) hb); have n1_ := Aside0.mk (Kd.R_elder' (m_9) (Kd.R_base ho74) hb); have n2_ := Aside0.mk (Kd.R_lower (Kd.R_new' ho74 (Kd.R_lt (m_9))) (below_size (m_0))); have n3_ := Aside0.mk (below_step (m_0) hb); clear HO_6; clear HO_7; clear HB; have HO_6 := n0_; have HO_7 := n1_; have HO416 := n2_; have HB := n3_; clear n0_ n1_ n2_ n3_; clear hb ho74) | ((with_reducible refine gate_dst (N := 129) rfl ?_); refine Kd.R_lit Kd.bool _ 4 ?hg (N := 129) ?hd (xs := ([] : List Bool)) (inner := []) (ok := fun _ => True) (okp := fun _ => True) ?hr ?hp (fun _ hk => hk) trivial (Below.refl _ _) (Nat.le_refl _) (by simp) ?_; (case hd => rfl); (case hg => rfl); (case hr => exact m_14); (case hp => exact (Reps.none _ _)); intro v418 w75 ho76 hb hg_ hnew_; clear hg_ hnew_; (first | rw [← Ny417.out] at ho76 | (simp only [Int.reduceToNat] at ho76; rw [← Ny417.out] at ho76)); have n0_ := Aside0.mk (Kd.R_elder' (m_12) (Kd.R_base ho76) hb); have n1_ := Aside0.mk (Kd.R_below (m_9) hb); have n2_ := Aside0.mk (Kd.R_below (by (with_reducible repeat (first | apply Kd.R_alloc | apply Kd.R_drewN | apply Kd.R_drew)); exact HO416.out) hb); have n3_ := Aside0.mk (Kd.R_lower (Kd.R_new' ho76 (Kd.R_lt (m_12))) (below_size (m_0))); have n4_ := Aside0.mk (below_step (m_0) hb); clear HO_6; clear HO_7; clear HO416; clear HB; have HO_6 := n0_; have HO_7 := n1_; have HO416 := n2_; have HO419 := n3_; have HB := n4_; clear n0_ n1_ n2_ n3_ n4_; clear hb ho76))
                                   go_ret3
                                   exact ⟨_, _, m_3, by (with_reducible repeat (first | apply Kd.R_alloc | apply Kd.R_drewN | apply Kd.R_drew)); exact Kd.R_mono HO416.out (fun _ hk => trivial), by (with_reducible repeat (first | apply Kd.R_alloc | apply Kd.R_drewN | apply Kd.R_drew)); exact Kd.R_mono HO419.out (fun _ hk => trivial), m_0⟩
                                 · rw [if_neg c70] at H
                                   have c70b0 : decide (1048578 < t413) = false := decide_eq_false c70
                                   clear c70
                                   have H' := Aside0.mk H
                                   clear H
                                   have p390 : 0 ≤ (x13_3 : Int) := of_decide_eq_true (m_1)
                                   have q390 : x13_3 < (l0.length : Int) := of_decide_eq_true (m_1)
                                   obtain ⟨ad390, e390, hx390_0, hx390_1, hx390_2, hx390_3, hx390_4, hx390_5, hx390_6⟩ := at_T34 HR0.out x13_3 p390 q390
                                   cases e390
                                   obtain ⟨hx390_0, hx390_1, hx390_2, hx390_3, hx390_4, hx390_5, hx390_6⟩ := mv7 HB.out hx390_0 hx390_1 hx390_2 hx390_3 hx390_4 hx390_5 hx390_6
                                   replace p390 := eq_true p390
                                   replace q390 := eq_true q390
                                   obtain ⟨Ao77, co77, eo77⟩ := Kd.R_slice HO_7.out
                                   subst eo77
                                   go_wp2_with (first | (go_at_call 10; (with_reducible refine (d13B.calls k3 _ _ l0 _ _ x7_2 x13_3 t391 _ ?side1 ?side2 ?side3 ?side4 A44.out).mono ?_); (case side1 => exact m_15); (case side2 => exact HC0.out); (case side3 => exact m_10); (case side4 => exact (Kd.R_reads' HO_7.out).2.1); rintro e w' ⟨rfl, ⟨nd, rfl⟩⟩; clear A44) | (go_at_call 10; (with_reducible refine (d13B.calls k3 _ _ l0 _ _ x7_2 x13_3 t398 _ ?side1 ?side2 ?side3 ?side4 A51.out).mono ?_); (case side1 => exact m_22); (case side2 => exact HC0.out); (case side3 => exact m_10); (case side4 => exact (Kd.R_reads' HO_7.out).2.1); rintro e w' ⟨rfl, ⟨nd, rfl⟩⟩; clear A51; obtain ⟨Ao78, co78, eo78⟩ := Kd.R_slice HO_6.out; subst eo78; have p405 : 0 ≤ (x13_3 : Int) := of_decide_eq_true (m_1); have q405 : x13_3 < (x6_2.length : Int) := of_decide_eq_true (m_1); obtain ⟨ad405, e405, hx405_0⟩ := Kd.at_bool (Kd.R_reads' HO_6.out).2.2 x13_3 p405 q405; (try rw [← Nbq59.out] at hx405_0); cases e405; replace p405 := eq_true p405; replace q405 := eq_true q405) | (go_at_call 10; (with_reducible refine (d13B.calls k3 _ _ l0 _ _ x7_2 x13_3 t406 _ ?side1 ?side2 ?side3 ?side4 A61.out).mono ?_); (case side1 => exact m_22); (case side2 => exact HC0.out); (case side3 => exact m_10); (case side4 => exact (Kd.R_reads' HO_7.out).2.1); rintro e w' ⟨rfl, ⟨nd, rfl⟩⟩; clear A61) | (go_at_call 10; (with_reducible refine (d13B.calls k3 _ _ l0 _ _ x7_2 x13_3 t413 _ ?side1 ?side2 ?side3 ?side4 A69.out).mono ?_); (case side1 => exact m_22); (case side2 => exact HC0.out); (case side3 => exact m_10); (case side4 => exact (Kd.R_reads' HO_7.out).2.1); rintro e w' ⟨rfl, ⟨nd, rfl⟩⟩; clear A69))
                                   go_roundg k3
                                   case measure => have := HK1.out; have := HK2.out; have := HK3.out; omega
                                   case rel => exact ⟨(wrap64 (x13_3 + 1)), (m_5), H', ⟨m_51⟩, ⟨m_12⟩, ⟨m_9⟩, ⟨m_0⟩⟩
                             · replace c60 := Bool.eq_false_iff.mpr c60
                               subst c60
                               have H1 : (d13L.l3 k3 l0 x6_2 x7_2 (wrap64 (x13_3 + 1))) = some (r1, r2, r3) := by rw [if_neg (show ¬ (false = true) by decide)] at H; exact H
                               clear H
                               have H := H1
                               clear H1
                               have H' := Aside0.mk H
                               clear H
                               have p390 : 0 ≤ (x13_3 : Int) := of_decide_eq_true (m_1)
                               have q390 : x13_3 < (l0.length : Int) := of_decide_eq_true (m_1)
                               obtain ⟨ad390, e390, hx390_0, hx390_1, hx390_2, hx390_3, hx390_4, hx390_5, hx390_6⟩ := at_T34 HR0.out x13_3 p390 q390
                               cases e390
                               obtain ⟨hx390_0, hx390_1, hx390_2, hx390_3, hx390_4, hx390_5, hx390_6⟩ := mv7 HB.out hx390_0 hx390_1 hx390_2 hx390_3 hx390_4 hx390_5 hx390_6
                               replace p390 := eq_true p390
                               replace q390 := eq_true q390
                               obtain ⟨Ao79, co79, eo79⟩ := Kd.R_slice HO_7.out
                               subst eo79
                               go_wp2_with (first | (go_at_call 10; (with_reducible refine (d13B.calls k3 _ _ l0 _ _ x7_2 x13_3 t391 _ ?side1 ?side2 ?side3 ?side4 A44.out).mono ?_); (case side1 => exact m_15); (case side2 => exact HC0.out); (case side3 => exact m_10); (case side4 => exact (Kd.R_reads' HO_7.out).2.1); rintro e w' ⟨rfl, ⟨nd, rfl⟩⟩; clear A44) | (go_at_call 10; (with_reducible refine (d13B.calls k3 _ _ l0 _ _ x7_2 x13_3 t398 _ ?side1 ?side2 ?side3 ?side4 A51.out).mono ?_); (case side1 => exact m_22); (case side2 => exact HC0.out); (case side3 => exact m_10); (case side4 => exact (Kd.R_reads' HO_7.out).2.1); rintro e w' ⟨rfl, ⟨nd, rfl⟩⟩; clear A51; obtain ⟨Ao80, co80, eo80⟩ := Kd.R_slice HO_6.out; subst eo80; have p405 : 0 ≤ (x13_3 : Int) := of_decide_eq_true (m_1); have q405 : x13_3 < (x6_2.length : Int) := of_decide_eq_true (m_1); obtain ⟨ad405, e405, hx405_0⟩ := Kd.at_bool (Kd.R_reads' HO_6.out).2.2 x13_3 p405 q405; (try rw [← Nbq59.out] at hx405_0); cases e405; replace p405 := eq_true p405; replace q405 := eq_true q405))
                               go_roundg k3
                               case measure => have := HK1.out; have := HK2.out; have := HK3.out; omega
                               case rel => exact ⟨(wrap64 (x13_3 + 1)), (m_5), H', ⟨m_51⟩, ⟨m_12⟩, ⟨m_9⟩, ⟨m_0⟩⟩
                           · rw [if_neg c58] at H
                             exact absurd H (by simp)
                     · rw [if_neg c43] at H
                       have c43b0 : (((rd_T34 l0 x13_3).f0) == 4) = false := beq_eq_false_iff_ne.mpr c43
                       have c43b1 : (((rd_T34 l0 x13_3).f0) != 4) = true := bne_iff_ne.mpr c43
                       by_cases c81 : x13_3 < (x6_2.length : Int)
                       · rw [if_pos c81] at H
                         have c81b0 : decide (x13_3 < (x6_2.length : Int)) = true := decide_eq_true c81
                         clear c81
                         obtain ⟨bq82, hbq82⟩ : ∃ b_ : Bool, b_ = (rdOf false x6_2 x13_3) := ⟨_, rfl⟩
                         replace H : (if bq82 = true then ((d13B.f k3 l0 x7_2 x13_3).bind fun t421 => (if t421 < (-1048572) then (some ((([] : List Int)), (([] : List Bool)), 7)) else ((d13B.f k3 l0 x7_2 x13_3).bind fun t428 => (if t428 > 1048578 then (some ((([] : List Int)), (([] : List Bool)), 7)) else (d13L.l3 k3 l0 x6_2 x7_2 (wrap64 (x13_3 + 1))))))) else (d13L.l3 k3 l0 x6_2 x7_2 (wrap64 (x13_3 + 1)))) = some (r1, r2, r3) := by rw [← hbq82] at H; exact H
                         have Nbq82 := Aside0.mk hbq82
                         clear hbq82
                         by_cases c83 : bq82 = true
                         · subst c83
                           have H1 : ((d13B.f k3 l0 x7_2 x13_3).bind fun t421 => (if t421 < (-1048572) then (some ((([] : List Int)), (([] : List Bool)), 7)) else ((d13B.f k3 l0 x7_2 x13_3).bind fun t428 => (if t428 > 1048578 then (some ((([] : List Int)), (([] : List Bool)), 7)) else (d13L.l3 k3 l0 x6_2 x7_2 (wrap64 (x13_3 + 1))))))) = some (r1, r2, r3) := by rw [if_pos rfl] at H; exact H
                           clear H
                           have H := H1
                           clear H1
                           replace H := Option.bind_eq_some_iff.mp H
                           obtain ⟨t421, A840, H⟩ := H
                           replace H : (if t421 < (-1048572) then (some ((([] : List Int)), (([] : List Bool)), 7)) else ((d13B.f k3 l0 x7_2 x13_3).bind fun t428 => (if t428 > 1048578 then (some ((([] : List Int)), (([] : List Bool)), 7)) else (d13L.l3 k3 l0 x6_2 x7_2 (wrap64 (x13_3 + 1)))))) = some (r1, r2, r3) := H
                           have A84 := Aside0.mk A840
                           clear A840
                           by_cases c85 : t421 < (-1048572)
                           · rw [if_pos c85] at H
                             have c85b0 : decide (t421 < (-1048572)) = true := decide_eq_true c85
                             clear c85
                             obtain ⟨y422, hy_⟩ : ∃ y_ : List Int, y_ = (([] : List Int)) := ⟨_, rfl⟩
                             replace H : (some (y422, (([] : List Bool)), 7)) = some (r1, r2, r3) := q_2
                             have Ny422 := Aside0.mk hy_
                             clear hy_
                             obtain ⟨y425, hy_⟩ : ∃ y_ : List Bool, y_ = (([] : List Bool)) := ⟨_, rfl⟩
                             replace H : (some (y422, y425, 7)) = some (r1, r2, r3) := q_2
                             have Ny425 := Aside0.mk hy_
                             clear hy_
                             simp only [Option.some.injEq, Prod.mk.injEq] at H
                             obtain ⟨rfl, rfl, rfl⟩ := H
                             have p390 : 0 ≤ (x13_3 : Int) := of_decide_eq_true (m_1)
                             have q390 : x13_3 < (l0.length : Int) := of_decide_eq_true (m_1)
                             obtain ⟨ad390, e390, hx390_0, hx390_1, hx390_2, hx390_3, hx390_4, hx390_5, hx390_6⟩ := at_T34 HR0.out x13_3 p390 q390
                             cases e390
                             obtain ⟨hx390_0, hx390_1, hx390_2, hx390_3, hx390_4, hx390_5, hx390_6⟩ := mv7 HB.out hx390_0 hx390_1 hx390_2 hx390_3 hx390_4 hx390_5 hx390_6
                             replace p390 := eq_true p390
                             replace q390 := eq_true q390
                             obtain ⟨Ao86, co86, eo86⟩ := Kd.R_slice HO_6.out
                             subst eo86
                             have p420 : 0 ≤ (x13_3 : Int) := of_decide_eq_true (m_1)
                             have q420 : x13_3 < (x6_2.length : Int) := of_decide_eq_true (m_1)
                             obtain ⟨ad420, e420, hx420_0⟩ := Kd.at_bool (Kd.R_reads' HO_6.out).2.2 x13_3 p420 q420
                             (try rw [← Nbq82.out] at hx420_0)
                             cases e420
                             replace p420 := eq_true p420
                             replace q420 := eq_true q420
                             obtain ⟨Ao87, co87, eo87⟩ := Kd.R_slice HO_7.out
                             subst eo87
                             go_wp2_with (first | (go_at_call 10; (with_reducible refine (d13B.calls k3 _ _ l0 _ _ x7_2 x13_3 t421 _ ?side1 ?side2 ?side3 ?side4 A84.out).mono ?_); (case side1 => exact m_15); (case side2 => exact HC0.out); (case side3 => exact m_10); (case side4 => exact (Kd.R_reads' HO_7.out).2.1); rintro e w' ⟨rfl, ⟨nd, rfl⟩⟩) | ((with_reducible refine gate_dst (N := 128) rfl ?_); refine Kd.R_lit (Kd.int .i64) _ 3 ?hg (N := 128) ?hd (xs := ([] : List Int)) (inner := []) (ok := fun _ => True) (okp := fun _ => True) ?hr ?hp (fun _ hk => hk) trivial (Below.refl _ _) (Nat.le_refl _) (by simp) ?_; (case hd => rfl); (case hg => rfl); (case hr => exact m_14); (case hp => exact (Reps.none _ _)); intro v423 w88 ho89 hb hg_ hnew_; clear hg_ hnew_; (first | rw [← Ny422.out] at ho89 | (simp only [Int.reduceToNat] at ho89; rw [← Ny422.out] at ho89)); have n0_ := Aside0.mk (Kd.R_below (m_12) hb); have n1_ := Aside0.mk (Kd.R_elder' (m_9) (Kd.R_base ho89) hb); have n2_ := Aside0.mk (Kd.R_lower (Kd.R_new' ho89 (Kd.R_lt (m_9))) (below_size (m_0))); have n3_ := Aside0.mk (below_step (m_0) hb); clear HO_6; clear HO_7; clear HB; have HO_6 := n0_; have HO_7 := n1_; have HO424 := n2_; have HB := n3_; clear n0_ n1_ n2_ n3_; clear hb ho89) | ((with_reducible refine gate_dst (N := 129) rfl ?_); refine Kd.R_lit Kd.bool _ 4 ?hg (N := 129) ?hd (xs := ([] : List Bool)) (inner := []) (ok := fun _ => True) (okp := fun _ => True) ?hr ?hp (fun _ hk => hk) trivial (Below.refl _ _) (Nat.le_refl _) (by simp) ?_; (case hd => rfl); (case hg => rfl); (case hr => exact m_14); (case hp => exact (Reps.none _ _)); intro v426 w90 ho91 hb hg_ hnew_; clear hg_ hnew_; (first | rw [← Ny425.out] at ho91 | (simp only [Int.reduceToNat] at ho91; rw [← Ny425.out] at ho91)); have n0_ := Aside0.mk (Kd.R_elder' (m_12) (Kd.R_base ho91) hb); have n1_ := Aside0.mk (Kd.R_below (m_9) hb); have n2_ := Aside0.mk (Kd.R_below (by (with_reducible repeat (first | apply Kd.R_alloc | apply Kd.R_drewN | apply Kd.R_drew)); exact HO424.out) hb); have n3_ := Aside0.mk (Kd.R_lower (Kd.R_new' ho91 (Kd.R_lt (m_12))) (below_size (m_0))); have n4_ := Aside0.mk (below_step (m_0) hb); clear HO_6; clear HO_7; clear HO424; clear HB; have HO_6 := n0_; have HO_7 := n1_; have HO424 := n2_; have HO427 := n3_; have HB := n4_; clear n0_ n1_ n2_ n3_ n4_; clear hb ho91))
                             go_ret3
                             exact ⟨_, _, m_3, by (with_reducible repeat (first | apply Kd.R_alloc | apply Kd.R_drewN | apply Kd.R_drew)); exact Kd.R_mono HO424.out (fun _ hk => trivial), by (with_reducible repeat (first | apply Kd.R_alloc | apply Kd.R_drewN | apply Kd.R_drew)); exact Kd.R_mono HO427.out (fun _ hk => trivial), m_0⟩
                           · rw [if_neg c85] at H
                             have c85b0 : decide (t421 < (-1048572)) = false := decide_eq_false c85
                             clear c85
                             replace H := Option.bind_eq_some_iff.mp H
                             obtain ⟨t428, A920, H⟩ := H
                             replace H : (if t428 > 1048578 then (some ((([] : List Int)), (([] : List Bool)), 7)) else (d13L.l3 k3 l0 x6_2 x7_2 (wrap64 (x13_3 + 1)))) = some (r1, r2, r3) := H
                             have A92 := Aside0.mk A920
                             clear A920
                             by_cases c93 : t428 > 1048578
                             · rw [if_pos c93] at H
                               have c93b0 : decide (1048578 < t428) = true := decide_eq_true c93
                               clear c93
                               obtain ⟨y429, hy_⟩ : ∃ y_ : List Int, y_ = (([] : List Int)) := ⟨_, rfl⟩
                               replace H : (some (y429, (([] : List Bool)), 7)) = some (r1, r2, r3) := q_2
                               have Ny429 := Aside0.mk hy_
                               clear hy_
                               obtain ⟨y432, hy_⟩ : ∃ y_ : List Bool, y_ = (([] : List Bool)) := ⟨_, rfl⟩
                               replace H : (some (y429, y432, 7)) = some (r1, r2, r3) := q_2
                               have Ny432 := Aside0.mk hy_
                               clear hy_
                               simp only [Option.some.injEq, Prod.mk.injEq] at H
                               obtain ⟨rfl, rfl, rfl⟩ := H
                               have p390 : 0 ≤ (x13_3 : Int) := of_decide_eq_true (m_1)
                               have q390 : x13_3 < (l0.length : Int) := of_decide_eq_true (m_1)
                               obtain ⟨ad390, e390, hx390_0, hx390_1, hx390_2, hx390_3, hx390_4, hx390_5, hx390_6⟩ := at_T34 HR0.out x13_3 p390 q390
                               cases e390
                               obtain ⟨hx390_0, hx390_1, hx390_2, hx390_3, hx390_4, hx390_5, hx390_6⟩ := mv7 HB.out hx390_0 hx390_1 hx390_2 hx390_3 hx390_4 hx390_5 hx390_6
                               replace p390 := eq_true p390
                               replace q390 := eq_true q390
                               obtain ⟨Ao94, co94, eo94⟩ := Kd.R_slice HO_6.out
                               subst eo94
                               have p420 : 0 ≤ (x13_3 : Int) := of_decide_eq_true (m_1)
                               have q420 : x13_3 < (x6_2.length : Int) := of_decide_eq_true (m_1)
                               obtain ⟨ad420, e420, hx420_0⟩ := Kd.at_bool (Kd.R_reads' HO_6.out).2.2 x13_3 p420 q420
                               (try rw [← Nbq82.out] at hx420_0)
                               cases e420
                               replace p420 := eq_true p420
                               replace q420 := eq_true q420
                               obtain ⟨Ao95, co95, eo95⟩ := Kd.R_slice HO_7.out
                               subst eo95
                               go_wp2_with (first | (go_at_call 10; (with_reducible refine (d13B.calls k3 _ _ l0 _ _ x7_2 x13_3 t421 _ ?side1 ?side2 ?side3 ?side4 A84.out).mono ?_); (case side1 => exact m_15); (case side2 => exact HC0.out); (case side3 => exact m_10); (case side4 => exact (Kd.R_reads' HO_7.out).2.1); rintro e w' ⟨rfl, ⟨nd, rfl⟩⟩; clear A84) | (go_at_call 10; (with_reducible refine (d13B.calls k3 _ _ l0 _ _ x7_2 x13_3 t428 _ ?side1 ?side2 ?side3 ?side4 A92.out).mono ?_); (case side1 => exact m_22); (case side2 => exact HC0.out); (case side3 => exact m_10); (case side4 => exact (Kd.R_reads' HO_7.out).2.1); rintro e w' ⟨rfl, ⟨nd, rfl⟩⟩; clear A92) | ((with_reducible refine gate_dst (N := 128) rfl ?_); refine Kd.R_lit (Kd.int .i64) _ 3 ?hg (N := 128) ?hd (xs := ([] : List Int)) (inner := []) (ok := fun _ => True) (okp := fun _ => True) ?hr ?hp (fun _ hk => hk) trivial (Below.refl _ _) (Nat.le_refl _) (by simp) ?_; (case hd => rfl); (case hg => rfl); (case hr => exact m_14); (case hp => exact (Reps.none _ _)); intro v430 w96 ho97 hb hg_ hnew_; clear hg_ hnew_; (first | rw [← Ny429.out] at ho97 | (simp only [Int.reduceToNat] at ho97; rw [← Ny429.out] at ho97)); have n0_ := Aside0.mk (Kd.R_below (m_12) hb); have n1_ := Aside0.mk (Kd.R_elder' (m_9) (Kd.R_base ho97) hb); have n2_ := Aside0.mk (Kd.R_lower (Kd.R_new' ho97 (Kd.R_lt (m_9))) (below_size (m_0))); have n3_ := Aside0.mk (below_step (m_0) hb); clear HO_6; clear HO_7; clear HB; have HO_6 := n0_; have HO_7 := n1_; have HO431 := n2_; have HB := n3_; clear n0_ n1_ n2_ n3_; clear hb ho97) | ((with_reducible refine gate_dst (N := 129) rfl ?_); refine Kd.R_lit Kd.bool _ 4 ?hg (N := 129) ?hd (xs := ([] : List Bool)) (inner := []) (ok := fun _ => True) (okp := fun _ => True) ?hr ?hp (fun _ hk => hk) trivial (Below.refl _ _) (Nat.le_refl _) (by simp) ?_; (case hd => rfl); (case hg => rfl); (case hr => exact m_14); (case hp => exact (Reps.none _ _)); intro v433 w98 ho99 hb hg_ hnew_; clear hg_ hnew_; (first | rw [← Ny432.out] at ho99 | (simp only [Int.reduceToNat] at ho99; rw [← Ny432.out] at ho99)); have n0_ := Aside0.mk (Kd.R_elder' (m_12) (Kd.R_base ho99) hb); have n1_ := Aside0.mk (Kd.R_below (m_9) hb); have n2_ := Aside0.mk (Kd.R_below (by (with_reducible repeat (first | apply Kd.R_alloc | apply Kd.R_drewN | apply Kd.R_drew)); exact HO431.out) hb); have n3_ := Aside0.mk (Kd.R_lower (Kd.R_new' ho99 (Kd.R_lt (m_12))) (below_size (m_0))); have n4_ := Aside0.mk (below_step (m_0) hb); clear HO_6; clear HO_7; clear HO431; clear HB; have HO_6 := n0_; have HO_7 := n1_; have HO431 := n2_; have HO434 := n3_; have HB := n4_; clear n0_ n1_ n2_ n3_ n4_; clear hb ho99))
                               go_ret3
                               exact ⟨_, _, m_3, by (with_reducible repeat (first | apply Kd.R_alloc | apply Kd.R_drewN | apply Kd.R_drew)); exact Kd.R_mono HO431.out (fun _ hk => trivial), by (with_reducible repeat (first | apply Kd.R_alloc | apply Kd.R_drewN | apply Kd.R_drew)); exact Kd.R_mono HO434.out (fun _ hk => trivial), m_0⟩
                             · rw [if_neg c93] at H
                               have c93b0 : decide (1048578 < t428) = false := decide_eq_false c93
                               clear c93
                               have H' := Aside0.mk H
                               clear H
                               have p390 : 0 ≤ (x13_3 : Int) := of_decide_eq_true (m_1)
                               have q390 : x13_3 < (l0.length : Int) := of_decide_eq_true (m_1)
                               obtain ⟨ad390, e390, hx390_0, hx390_1, hx390_2, hx390_3, hx390_4, hx390_5, hx390_6⟩ := at_T34 HR0.out x13_3 p390 q390
                               cases e390
                               obtain ⟨hx390_0, hx390_1, hx390_2, hx390_3, hx390_4, hx390_5, hx390_6⟩ := mv7 HB.out hx390_0 hx390_1 hx390_2 hx390_3 hx390_4 hx390_5 hx390_6
                               replace p390 := eq_true p390
                               replace q390 := eq_true q390
                               obtain ⟨Ao100, co100, eo100⟩ := Kd.R_slice HO_6.out
                               subst eo100
                               have p420 : 0 ≤ (x13_3 : Int) := of_decide_eq_true (m_1)
                               have q420 : x13_3 < (x6_2.length : Int) := of_decide_eq_true (m_1)
                               obtain ⟨ad420, e420, hx420_0⟩ := Kd.at_bool (Kd.R_reads' HO_6.out).2.2 x13_3 p420 q420
                               (try rw [← Nbq82.out] at hx420_0)
                               cases e420
                               replace p420 := eq_true p420
                               replace q420 := eq_true q420
                               obtain ⟨Ao101, co101, eo101⟩ := Kd.R_slice HO_7.out
                               subst eo101
                               go_wp2_with (first | (go_at_call 10; (with_reducible refine (d13B.calls k3 _ _ l0 _ _ x7_2 x13_3 t421 _ ?side1 ?side2 ?side3 ?side4 A84.out).mono ?_); (case side1 => exact m_15); (case side2 => exact HC0.out); (case side3 => exact m_10); (case side4 => exact (Kd.R_reads' HO_7.out).2.1); rintro e w' ⟨rfl, ⟨nd, rfl⟩⟩; clear A84) | (go_at_call 10; (with_reducible refine (d13B.calls k3 _ _ l0 _ _ x7_2 x13_3 t428 _ ?side1 ?side2 ?side3 ?side4 A92.out).mono ?_); (case side1 => exact m_22); (case side2 => exact HC0.out); (case side3 => exact m_10); (case side4 => exact (Kd.R_reads' HO_7.out).2.1); rintro e w' ⟨rfl, ⟨nd, rfl⟩⟩; clear A92))
                               go_roundg k3
                               case measure => have := HK1.out; have := HK2.out; have := HK3.out; omega
                               case rel => exact ⟨(wrap64 (x13_3 + 1)), (m_5), H', ⟨m_51⟩, ⟨m_12⟩, ⟨m_9⟩, ⟨m_0⟩⟩
                         · replace c83 := Bool.eq_false_iff.mpr c83
                           subst c83
                           have H1 : (d13L.l3 k3 l0 x6_2 x7_2 (wrap64 (x13_3 + 1))) = some (r1, r2, r3) := by rw [if_neg (show ¬ (false = true) by decide)] at H; exact H
                           clear H
                           have H := H1
                           clear H1
                           have H' := Aside0.mk H
                           clear H
                           have p390 : 0 ≤ (x13_3 : Int) := of_decide_eq_true (m_1)
                           have q390 : x13_3 < (l0.length : Int) := of_decide_eq_true (m_1)
                           obtain ⟨ad390, e390, hx390_0, hx390_1, hx390_2, hx390_3, hx390_4, hx390_5, hx390_6⟩ := at_T34 HR0.out x13_3 p390 q390
                           cases e390
                           obtain ⟨hx390_0, hx390_1, hx390_2, hx390_3, hx390_4, hx390_5, hx390_6⟩ := mv7 HB.out hx390_0 hx390_1 hx390_2 hx390_3 hx390_4 hx390_5 hx390_6
                           replace p390 := eq_true p390
                           replace q390 := eq_true q390
                           obtain ⟨Ao102, co102, eo102⟩ := Kd.R_slice HO_6.out
                           subst eo102
                           have p420 : 0 ≤ (x13_3 : Int) := of_decide_eq_true (m_1)
                           have q420 : x13_3 < (x6_2.length : Int) := of_decide_eq_true (m_1)
                           obtain ⟨ad420, e420, hx420_0⟩ := Kd.at_bool (Kd.R_reads' HO_6.out).2.2 x13_3 p420 q420
                           (try rw [← Nbq82.out] at hx420_0)
                           cases e420
                           replace p420 := eq_true p420
                           replace q420 := eq_true q420
                           go_wp2
                           go_roundg k3
                           case measure => have := HK1.out; have := HK2.out; have := HK3.out; omega
                           case rel => exact ⟨(wrap64 (x13_3 + 1)), (m_5), H', ⟨m_51⟩, ⟨m_12⟩, ⟨m_9⟩, ⟨m_0⟩⟩
                       · rw [if_neg c81] at H
                         exact absurd H (by simp)
                   · rw [if_neg c42] at H
                     exact absurd H (by simp)
                 · rw [if_neg c41] at H
                   have c41b0 : decide (x13_3 < (l0.length : Int)) = false := decide_eq_false c41
                   clear c41
                   simp only [Option.some.injEq, Prod.mk.injEq] at H
                   obtain ⟨rfl, rfl, rfl⟩ := H
                   go_wp2
                   go_ret3
                   exact ⟨_, _, m_3, m_9, m_12, m_0⟩
     · rw [if_neg c5] at H
       exact absurd H (by simp)
   · rw [if_neg c4] at H
     exact absurd H (by simp)
 · rw [if_neg c3] at H
   have c3b0 : (t362 == 0) = false := beq_eq_false_iff_ne.mpr c3
   have c3b1 : (t362 != 0) = true := bne_iff_ne.mpr c3
   obtain ⟨y363, hy_⟩ : ∃ y_ : List Int, y_ = (([] : List Int)) := ⟨_, rfl⟩
   replace H : (some (y363, (([] : List Bool)), t362)) = some (r1, r2, r3) := q_2
   have Ny363 := Aside0.mk hy_
   clear hy_
   obtain ⟨y366, hy_⟩ : ∃ y_ : List Bool, y_ = (([] : List Bool)) := ⟨_, rfl⟩
   replace H : (some (y363, y366, t362)) = some (r1, r2, r3) := q_2
   have Ny366 := Aside0.mk hy_
   clear hy_
   simp only [Option.some.injEq, Prod.mk.injEq] at H
   obtain ⟨rfl, rfl, rfl⟩ := H
   go_enter Try.func14, Try.ntmps14
   go_wp2_with (first | ((with_reducible refine gate_callee (f := 28) rfl ?_); refine goesL_ (some 15) rfl rfl Try.func28 (by kernel_rfl) rfl #[.slice A0 l0.length c0] rfl (m_8) ?_; (with_reducible refine (d13C.calls k _ _ l0 t362 _ ?side1 ?side2 A2.out).mono ?_); (case side1 => exact m_44); (case side2 => exact HC0.out); rintro e w103 ⟨rfl, hb⟩; refine ⟨_, rfl, ?_⟩; have n0_ := Aside0.mk (below_step (m_0) hb); clear HB; have HB := n0_; clear n0_; (try clear hb); (try clear hb2); (try clear hk); (try clear hi)) | ((with_reducible refine gate_dst (N := 18) rfl ?_); refine Kd.R_lit (Kd.int .i64) _ 3 ?hg (N := 18) ?hd (xs := ([] : List Int)) (inner := []) (ok := fun _ => True) (okp := fun _ => True) ?hr ?hp (fun _ hk => hk) trivial (Below.refl _ _) (Nat.le_refl _) (by simp) ?_; (case hd => rfl); (case hg => rfl); (case hr => exact m_14); (case hp => exact (Reps.none _ _)); intro v364 w104 ho105 hb hg_ hnew_; clear hg_ hnew_; (first | rw [← Ny363.out] at ho105 | (simp only [Int.reduceToNat] at ho105; rw [← Ny363.out] at ho105)); have n0_ := Aside0.mk (Kd.R_lower ho105 (below_size (m_0))); have n1_ := Aside0.mk (below_step (m_0) hb); clear HB; have HO365 := n0_; have HB := n1_; clear n0_ n1_; clear hb ho105) | ((with_reducible refine gate_dst (N := 19) rfl ?_); refine Kd.R_lit Kd.bool _ 4 ?hg (N := 19) ?hd (xs := ([] : List Bool)) (inner := []) (ok := fun _ => True) (okp := fun _ => True) ?hr ?hp (fun _ hk => hk) trivial (Below.refl _ _) (Nat.le_refl _) (by simp) ?_; (case hd => rfl); (case hg => rfl); (case hr => exact m_14); (case hp => exact (Reps.none _ _)); intro v367 w106 ho107 hb hg_ hnew_; clear hg_ hnew_; (first | rw [← Ny366.out] at ho107 | (simp only [Int.reduceToNat] at ho107; rw [← Ny366.out] at ho107)); have n0_ := Aside0.mk (Kd.R_below (by (with_reducible repeat (first | apply Kd.R_alloc | apply Kd.R_drewN | apply Kd.R_drew)); exact HO365.out) hb); have n1_ := Aside0.mk (Kd.R_lower ho107 (below_size (m_0))); have n2_ := Aside0.mk (below_step (m_0) hb); clear HO365; clear HB; have HO365 := n0_; have HO368 := n1_; have HB := n2_; clear n0_ n1_ n2_; clear hb ho107))
   go_ret3
   exact ⟨_, _, m_3, by (with_reducible repeat (first | apply Kd.R_alloc | apply Kd.R_drewN | apply Kd.R_drew)); exact HO365.out, by (with_reducible repeat (first | apply Kd.R_alloc | apply Kd.R_drewN | apply Kd.R_drew)); exact HO368.out, m_0⟩
end Go.Proofs.Ytihecimbhhlhaaa.PRs
