/- RsPintleref12Short, RsPintleref12Set, RsPintleref13Find, RsPintleref13By, RsPintleref11Same: texts put together. -/
import Derived.Test.YtihecimbhhlhaaaRsG1
import Derived.Test.YtihecimbhhlhaaaRsMc
section
namespace Go.Proofs.Ytihecimbhhlhaaa.PRs
open Go.RowKit Go.Proofs.YtihecimbhhlhaaaW.PrintWords Go.Proofs.YtihecimbhhlhaaaW.PrintLast Go.Proofs.YtihecimbhhlhaaaW.PrintMore
set_option linter.unusedVariables false
set_option linter.unusedSimpArgs false
/-! ### d12h: function 36 -/
def d12h.f (a0 : Int) : Option (Bool) := if a0 ≥ (-2048) then (some (decide (a0 ≤ 2047))) else (some false)
set_option maxHeartbeats 8000000 in
set_option maxRecDepth 100000 in
theorem d12h.calls (a0 : Int) (r : Bool) (w : World) (h : d12h.f a0 = some r) :
 Calls Try.prog 36 #[.int .i64 a0] w fun e w' => e = .returned (.bool r) ∧ Drawn0 w w' := by
 have H : (if a0 ≥ (-2048) then (some (decide (a0 ≤ 2047))) else (some false)) = some r := h
 clear h
 by_cases c2 : a0 ≥ (-2048)
 · rw [if_pos c2] at H
   have c2b0 : decide ((-2048) ≤ a0) = true := decide_eq_true c2
   clear c2
   obtain rfl := Option.some.inj H
   go_enter Try.func36, Try.ntmps36
   go_wp2
   go_ret
   exact ⟨m_5, m_19⟩
 · rw [if_neg c2] at H
   have c2b0 : decide ((-2048) ≤ a0) = false := decide_eq_false c2
   clear c2
   obtain rfl := Option.some.inj H
   go_enter Try.func36, Try.ntmps36
   go_wp2
   go_ret
   exact ⟨m_5, m_19⟩
end Go.Proofs.Ytihecimbhhlhaaa.PRs
end
section
namespace Go.Proofs.Ytihecimbhhlhaaa.PRs
open Go.RowKit Go.Proofs.YtihecimbhhlhaaaW.PrintWords Go.Proofs.YtihecimbhhlhaaaW.PrintLast Go.Proofs.YtihecimbhhlhaaaW.PrintMore
set_option linter.unusedVariables false
set_option linter.unusedSimpArgs false
/-! ### d12S: function 23 -/
mutual
def d12S.j0 : Nat → Int → Int → Bool → Option ((List (S32)))
 | 0, _, _, _ => none
 | k + 1, x0, x1, x13 => if x13 = true then (some (([] : List (S32)))) else ((d12h.f (wrap64 (x1))).bind fun t235 => (if t235 = true then (some (([(⟨19, x0, 0, 0, x1⟩ : S32)] : List (S32)))) else (if (Int.tmod (wrap64 (x1)) 4096) > 2047 then (d12S.j1 k x0 x1 (wrap64 ((Int.tmod (wrap64 (x1)) 4096) - 4096))) else (d12S.j1 k x0 x1 (Int.tmod (wrap64 (x1)) 4096)))))
def d12S.j1 : Nat → Int → Int → Int → Option ((List (S32)))
 | 0, _, _, _ => none
 | k + 1, x0, x1, x5 => if x5 < (-2048) then (d12S.j2 k x0 x1 (wrap64 (x5 + 4096))) else (d12S.j2 k x0 x1 x5)
def d12S.j2 : Nat → Int → Int → Int → Option ((List (S32)))
 | 0, _, _, _ => none
 | k + 1, x0, x1, x5 => if (wrap64 ((wrap64 (x1)) - x5)) = 2147483648 then ((some (([(⟨42, x0, 0, 0, (-2147483648)⟩ : S32)] : List (S32)) : List (S32))).bind fun y239 => (if x5 = 0 then (some y239) else (if y239.length < 3518437208883 then (some (y239 ++ [(⟨19, x0, x0, 0, wrap32 (x5)⟩ : S32)])) else (none)))) else ((some (([(⟨42, x0, 0, 0, wrap32 (wrap64 ((wrap64 (x1)) - x5))⟩ : S32)] : List (S32)) : List (S32))).bind fun y245 => (if x5 = 0 then (some y245) else (if y245.length < 3518437208883 then (some (y245 ++ [(⟨19, x0, x0, 0, wrap32 (x5)⟩ : S32)])) else (none))))
end
def d12S.f (k : Nat) (a0 : Int) (a1 : Int) : Option ((List (S32))) := if a0 < 1 then (d12S.j0 k a0 a1 true) else (d12S.j0 k a0 a1 (decide (a0 > 31)))
theorem d12S.mono_l : ∀ k, (∀ y0 y1 y2, LeO (d12S.j0 k y0 y1 y2) (d12S.j0 (k + 1) y0 y1 y2)) ∧ (∀ y0 y1 y2, LeO (d12S.j1 k y0 y1 y2) (d12S.j1 (k + 1) y0 y1 y2)) ∧ (∀ y0 y1 y2, LeO (d12S.j2 k y0 y1 y2) (d12S.j2 (k + 1) y0 y1 y2))
 | 0 => ⟨fun _ _ _ r h => by simp [d12S.j0] at h, fun _ _ _ r h => by simp [d12S.j1] at h, fun _ _ _ r h => by simp [d12S.j2] at h⟩
 | k + 1 => by
  obtain ⟨ih0, ih1, ih2⟩ := d12S.mono_l k
  refine ⟨?_, ?_, ?_⟩
  · intro y0 y1 y2
    unfold d12S.j0
    repeat' first
    | (with_reducible exact ih0 _ _ _)
    | (with_reducible exact ih1 _ _ _)
    | (with_reducible exact ih2 _ _ _)
    | (with_reducible exact LeO.refl _)
    | (with_reducible exact LeO.none _)
    | (with_reducible refine LeO.ite ?_ ?_)
    | (with_reducible refine LeO.bind ?_ (fun _ => ?_))
    | exact ih0 _ _ _
    | exact ih1 _ _ _
    | exact ih2 _ _ _
    | exact LeO.none _
    | refine LeO.ite ?_ ?_
    | refine LeO.bind ?_ (fun _ => ?_)
  · intro y0 y1 y2
    unfold d12S.j1
    repeat' first
    | (with_reducible exact ih0 _ _ _)
    | (with_reducible exact ih1 _ _ _)
    | (with_reducible exact ih2 _ _ _)
    | (with_reducible exact LeO.refl _)
    | (with_reducible exact LeO.none _)
    | (with_reducible refine LeO.ite ?_ ?_)
    | (with_reducible refine LeO.bind ?_ (fun _ => ?_))
    | exact ih0 _ _ _
    | exact ih1 _ _ _
    | exact ih2 _ _ _
    | exact LeO.none _
    | refine LeO.ite ?_ ?_
    | refine LeO.bind ?_ (fun _ => ?_)
  · intro y0 y1 y2
    unfold d12S.j2
    repeat' first
    | (with_reducible exact ih0 _ _ _)
    | (with_reducible exact ih1 _ _ _)
    | (with_reducible exact ih2 _ _ _)
    | (with_reducible exact LeO.refl _)
    | (with_reducible exact LeO.none _)
    | (with_reducible refine LeO.ite ?_ ?_)
    | (with_reducible refine LeO.bind ?_ (fun _ => ?_))
    | exact ih0 _ _ _
    | exact ih1 _ _ _
    | exact ih2 _ _ _
    | exact LeO.none _
    | refine LeO.ite ?_ ?_
    | refine LeO.bind ?_ (fun _ => ?_)
theorem d12S.mono : ∀ a0 a1 k, LeO (d12S.f k a0 a1) (d12S.f (k + 1) a0 a1) := by
 intro a0 a1 k
 obtain ⟨ih0, ih1, ih2⟩ := d12S.mono_l k
 unfold d12S.f
 repeat' first
  | (with_reducible exact ih0 _ _ _)
  | (with_reducible exact ih1 _ _ _)
  | (with_reducible exact ih2 _ _ _)
  | (with_reducible exact LeO.refl _)
  | (with_reducible exact LeO.none _)
  | (with_reducible refine LeO.ite ?_ ?_)
  | (with_reducible refine LeO.bind ?_ (fun _ => ?_))
  | exact ih0 _ _ _
  | exact ih1 _ _ _
  | exact ih2 _ _ _
  | exact LeO.none _
  | refine LeO.ite ?_ ?_
  | refine LeO.bind ?_ (fun _ => ?_)
set_option maxHeartbeats 8000000 in
set_option maxRecDepth 100000 in
theorem d12S.calls (k : Nat) (a0 : Int) (a1 : Int) (r : List (S32)) (w : World) (h : d12S.f k a0 a1 = some r) :
 Calls Try.prog 23 #[.int .i64 a0, .int .i32 a1] w fun e w' => ∃ v0_ : Value, e = .returned (v0_) ∧ Kd.R k32 32 w' w.heap.size (fun _ => True) v0_ r ∧ Below w.heap.size w w' := by
 have hu32 := Try.underlying32
 have HB := Aside0.mk (Below.refl w.heap.size w)
 have H : (if a0 < 1 then (d12S.j0 k a0 a1 true) else (d12S.j0 k a0 a1 (decide (a0 > 31)))) = some r := h
 clear h
 have HC3 := Aside0.mk H
 clear H
 go_enter Try.func23, Try.ntmps23
 go_upto_region 1 with (fail)
 go_cut [13] (fun v13 wc => ∃ (kq : Nat) (x13_2 : Bool), v13 = .bool x13_2 ∧ Aside0 (d12S.j0 kq a0 a1 x13_2 = some r) ∧ Aside0 (kq ≤ k) ∧ Aside0 (Below w.heap.size w wc))
 case first =>
  have H := HC3.out
  clear HC3
  by_cases c4 : a0 < 1
  · rw [if_pos c4] at H
    have c4b0 : decide (a0 < 1) = true := decide_eq_true c4
    clear c4
    (first | rw [c4b0] | (simp only [i64_w, i32_w]; rw [c4b0]) | skip)
    have H' := Aside0.mk H
    clear H
    go_wp2
    go_meet
    case rel => exact ⟨_, (true), (m_5), H', ⟨m_45⟩, ⟨m_0⟩⟩
  · rw [if_neg c4] at H
    have c4b0 : decide (a0 < 1) = false := decide_eq_false c4
    clear c4
    (first | rw [c4b0] | (simp only [i64_w, i32_w]; rw [c4b0]) | skip)
    have H' := Aside0.mk H
    clear H
    go_wp2
    go_meet
    case rel => exact ⟨_, (decide (a0 > 31)), (m_5), H', ⟨m_45⟩, ⟨m_0⟩⟩
 case rest =>
  clear HC3
  obtain ⟨kq, x13_2, rfl, HA, HJ2, HB⟩ := hcut
  cases kq with
  | zero => exact absurd HA.out (by simp [d12S.j0])
  | succ kj2 =>
   have H := HA.out
   clear HA
   simp only [d12S.j0] at H
   by_cases c5 : x13_2 = true
   · subst c5
     have H1 : (some (([] : List (S32)))) = some r := by rw [if_pos rfl] at H; exact H
     clear H
     have H := H1
     clear H1
     obtain ⟨y232, hy_⟩ : ∃ y_ : List (S32), y_ = (([] : List (S32))) := ⟨_, rfl⟩
     replace H : (some y232) = some r := q_2
     have Ny232 := Aside0.mk hy_
     clear hy_
     obtain rfl := Option.some.inj H
     go_wp2_with (first | ((with_reducible refine gate_dst (N := 14) rfl ?_); refine Kd.R_lit k32 _ 32 ?hg (N := 14) ?hd (xs := ([] : List (S32))) (inner := []) (ok := fun _ => True) (okp := fun _ => True) ?hr ?hp (fun _ hk => hk) trivial (Below.refl _ _) (Nat.le_refl _) (by simp) ?_; (case hd => rfl); (case hg => rfl); (case hr => exact m_14); (case hp => exact (Reps.none _ _)); intro v233 w6 ho7 hb hg_ hnew_; clear hg_ hnew_; (first | rw [← Ny232.out] at ho7 | (simp only [Int.reduceToNat] at ho7; rw [← Ny232.out] at ho7)); have n0_ := Aside0.mk (Kd.R_lower ho7 (below_size (m_0))); have n1_ := Aside0.mk (below_step (m_0) hb); clear HB; have HO234 := n0_; have HB := n1_; clear n0_ n1_; clear hb ho7))
     go_ret
     exact ⟨_, m_3, by (with_reducible repeat (first | apply Kd.R_alloc | apply Kd.R_drewN | apply Kd.R_drew)); exact HO234.out, m_0⟩
   · replace c5 := Bool.eq_false_iff.mpr c5
     subst c5
     have H1 : ((d12h.f (wrap64 (a1))).bind fun t235 => (if t235 = true then (some (([(⟨19, a0, 0, 0, a1⟩ : S32)] : List (S32)))) else (if (Int.tmod (wrap64 (a1)) 4096) > 2047 then (d12S.j1 kj2 a0 a1 (wrap64 ((Int.tmod (wrap64 (a1)) 4096) - 4096))) else (d12S.j1 kj2 a0 a1 (Int.tmod (wrap64 (a1)) 4096))))) = some r := by rw [if_neg (show ¬ (false = true) by decide)] at H; exact H
     clear H
     have H := H1
     clear H1
     replace H := Option.bind_eq_some_iff.mp H
     obtain ⟨t235, A80, H⟩ := H
     replace H : (if t235 = true then (some (([(⟨19, a0, 0, 0, a1⟩ : S32)] : List (S32)))) else (if (Int.tmod (wrap64 (a1)) 4096) > 2047 then (d12S.j1 kj2 a0 a1 (wrap64 ((Int.tmod (wrap64 (a1)) 4096) - 4096))) else (d12S.j1 kj2 a0 a1 (Int.tmod (wrap64 (a1)) 4096)))) = some r := H
     have A8 := Aside0.mk A80
     clear A80
     by_cases c9 : t235 = true
     · subst c9
       have H1 : (some (([(⟨19, a0, 0, 0, a1⟩ : S32)] : List (S32)))) = some r := by rw [if_pos rfl] at H; exact H
       clear H
       have H := H1
       clear H1
       obtain ⟨y236, hy_⟩ : ∃ y_ : List (S32), y_ = (([(⟨19, a0, 0, 0, a1⟩ : S32)] : List (S32))) := ⟨_, rfl⟩
       replace H : (some y236) = some r := q_2
       have Ny236 := Aside0.mk hy_
       clear hy_
       obtain rfl := Option.some.inj H
       go_wp2_with (first | ((with_reducible refine gate_callee (f := 36) rfl ?_); refine goesL_ (some 17) rfl rfl Try.func36 (by kernel_rfl) rfl #[.int .i64 (wrap64 (a1))] rfl (m_8) ?_; (with_reducible refine (d12h.calls (wrap64 (a1)) true _ A8.out).mono ?_); rintro e w' ⟨rfl, ⟨nd, rfl⟩⟩; refine ⟨_, rfl, ?_⟩) | ((with_reducible refine gate_dst (N := 21) rfl ?_); refine Kd.R_lit k32 _ 32 ?hg (N := 21) ?hd (xs := ([(⟨19, a0, 0, 0, a1⟩ : S32)] : List (S32))) (inner := [.int .i64 19, .int .i64 a0, .int .i64 0, .int .i64 0, .int .i32 a1]) (ok := fun _ => True) (okp := fun _ => True) ?hr ?hp (fun _ hk => hk) trivial (Below.refl _ _) (Nat.le_refl _) (by simp) ?_; (case hd => rfl); (case hg => rfl); (case hr => exact m_14); (case hp => exact (Reps.c5 (show Kd.M k32 _ _ _ (⟨19, a0, 0, 0, a1⟩ : S32) [.int .i64 19, .int .i64 a0, .int .i64 0, .int .i64 0, .int .i32 a1] from (k32_mkM _ _ _ (⟨19, a0, 0, 0, a1⟩ : S32) )) (Reps.none _ _))); intro v237 w10 ho11 hb hg_ hnew_; clear hg_ hnew_; (first | rw [← Ny236.out] at ho11 | (simp only [Int.reduceToNat] at ho11; rw [← Ny236.out] at ho11)); have n0_ := Aside0.mk (Kd.R_lower ho11 (below_size (m_0))); have n1_ := Aside0.mk (below_step (m_0) hb); clear HB; have HO238 := n0_; have HB := n1_; clear n0_ n1_; clear hb ho11))
       go_ret
       exact ⟨_, m_3, by (with_reducible repeat (first | apply Kd.R_alloc | apply Kd.R_drewN | apply Kd.R_drew)); exact HO238.out, m_0⟩
     · replace c9 := Bool.eq_false_iff.mpr c9
       subst c9
       have H1 : (if (Int.tmod (wrap64 (a1)) 4096) > 2047 then (d12S.j1 kj2 a0 a1 (wrap64 ((Int.tmod (wrap64 (a1)) 4096) - 4096))) else (d12S.j1 kj2 a0 a1 (Int.tmod (wrap64 (a1)) 4096))) = some r := by rw [if_neg (show ¬ (false = true) by decide)] at H; exact H
       clear H
       have H := H1
       clear H1
       have HC12 := Aside0.mk H
       clear H
       go_upto_if 26 with (first | ((with_reducible refine gate_callee (f := 36) rfl ?_); refine goesL_ (some 17) rfl rfl Try.func36 (by kernel_rfl) rfl #[.int .i64 (wrap64 (a1))] rfl (m_8) ?_; (with_reducible refine (d12h.calls (wrap64 (a1)) false _ A8.out).mono ?_); rintro e w' ⟨rfl, ⟨nd, rfl⟩⟩; refine ⟨_, rfl, ?_⟩))
       (try simp only [Act.put, List.setIfInBounds_toArray, List.set_cons_zero, List.set_cons_succ])
       go_cut [5] (fun v5 wc => ∃ (kq : Nat) (x5_11 : Int), v5 = .int .i64 x5_11 ∧ Aside0 (d12S.j1 kq a0 a1 x5_11 = some r) ∧ Aside0 (kq ≤ kj2) ∧ Aside0 (Below w.heap.size w wc))
       case first =>
        have H := HC12.out
        clear HC12
        by_cases c13 : (Int.tmod (wrap64 (a1)) 4096) > 2047
        · rw [if_pos c13] at H
          have c13b0 : decide (2047 < (Int.tmod (wrap64 (a1)) 4096)) = true := decide_eq_true c13
          clear c13
          (first | rw [c13b0] | (simp only [i64_w, i32_w]; rw [c13b0]) | skip)
          have H' := Aside0.mk H
          clear H
          go_wp2
          go_meet
          case rel => exact ⟨_, (wrap64 ((Int.tmod (wrap64 (a1)) 4096) - 4096)), (m_5), H', ⟨by have := HJ2.out; first | omega | exact Nat.le_refl _⟩, ⟨m_0⟩⟩
        · rw [if_neg c13] at H
          have c13b0 : decide (2047 < (Int.tmod (wrap64 (a1)) 4096)) = false := decide_eq_false c13
          clear c13
          (first | rw [c13b0] | (simp only [i64_w, i32_w]; rw [c13b0]) | skip)
          have H' := Aside0.mk H
          clear H
          go_wp2
          go_meet
          case rel => exact ⟨_, (Int.tmod (wrap64 (a1)) 4096), (m_5), H', ⟨by have := HJ2.out; first | omega | exact Nat.le_refl _⟩, ⟨m_0⟩⟩
       case rest =>
        clear HC12
        obtain ⟨kq, x5_11, rfl, HA, HJ11, HB⟩ := hcut
        cases kq with
        | zero => exact absurd HA.out (by simp [d12S.j1])
        | succ kj11 =>
         have H := HA.out
         clear HA
         simp only [d12S.j1] at H
         have HC14 := Aside0.mk H
         clear H
         go_upto_if 30 with (fail)
         go_cut [5] (fun v5 wc => ∃ (kq : Nat) (x5_13 : Int), v5 = .int .i64 x5_13 ∧ Aside0 (d12S.j2 kq a0 a1 x5_13 = some r) ∧ Aside0 (kq ≤ kj11) ∧ Aside0 (Below w.heap.size w wc))
         case first =>
          have H := HC14.out
          clear HC14
          by_cases c15 : x5_11 < (-2048)
          · rw [if_pos c15] at H
            have c15b0 : decide (x5_11 < (-2048)) = true := decide_eq_true c15
            clear c15
            (first | rw [c15b0] | (simp only [i64_w, i32_w]; rw [c15b0]) | skip)
            have H' := Aside0.mk H
            clear H
            go_wp2
            go_meet
            case rel => exact ⟨_, (wrap64 (x5_11 + 4096)), (m_5), H', ⟨by have := HJ2.out; have := HJ11.out; first | omega | exact Nat.le_refl _⟩, ⟨m_0⟩⟩
          · rw [if_neg c15] at H
            have c15b0 : decide (x5_11 < (-2048)) = false := decide_eq_false c15
            clear c15
            (first | rw [c15b0] | (simp only [i64_w, i32_w]; rw [c15b0]) | skip)
            have H' := Aside0.mk H
            clear H
            go_wp2
            go_meet
            case rel => exact ⟨_, (x5_11), (m_5), H', ⟨by have := HJ2.out; have := HJ11.out; first | omega | exact Nat.le_refl _⟩, ⟨m_0⟩⟩
         case rest =>
          clear HC14
          obtain ⟨kq, x5_13, rfl, HA, HJ13, HB⟩ := hcut
          cases kq with
          | zero => exact absurd HA.out (by simp [d12S.j2])
          | succ kj13 =>
           have H := HA.out
           clear HA
           simp only [d12S.j2] at H
           by_cases c16 : (wrap64 ((wrap64 (a1)) - x5_13)) = 2147483648
           · rw [if_pos c16] at H
             have c16b0 : ((wrap64 ((wrap64 (a1)) - x5_13)) == 2147483648) = true := beq_iff_eq.mpr c16
             have c16b1 : ((wrap64 ((wrap64 (a1)) - x5_13)) != 2147483648) = false := bne_eq_false_iff_eq.mpr c16
             clear c16
             obtain ⟨y239, hy_⟩ : ∃ y_ : List (S32), y_ = (([(⟨42, a0, 0, 0, (-2147483648)⟩ : S32)] : List (S32))) := ⟨_, rfl⟩
             replace H : (if x5_13 = 0 then (some y239) else (if y239.length < 3518437208883 then (some (y239 ++ [(⟨19, a0, a0, 0, wrap32 (x5_13)⟩ : S32)])) else (none))) = some r := q_2
             have Ny239 := Aside0.mk hy_
             clear hy_
             by_cases c17 : x5_13 = 0
             · rw [if_pos c17] at H
               have c17b0 : (x5_13 == 0) = true := beq_iff_eq.mpr c17
               have c17b1 : (x5_13 != 0) = false := bne_eq_false_iff_eq.mpr c17
               clear c17
               obtain rfl := Option.some.inj H
               go_wp2_with (first | ((with_reducible refine gate_dst (N := 43) rfl ?_); refine Kd.R_lit k32 _ 32 ?hg (N := 43) ?hd (xs := ([(⟨42, a0, 0, 0, (-2147483648)⟩ : S32)] : List (S32))) (inner := [.int .i64 42, .int .i64 a0, .int .i64 0, .int .i64 0, .int .i32 (-2147483648)]) (ok := fun _ => True) (okp := fun _ => True) ?hr ?hp (fun _ hk => hk) trivial (Below.refl _ _) (Nat.le_refl _) (by simp) ?_; (case hd => rfl); (case hg => rfl); (case hr => exact m_14); (case hp => exact (Reps.c5 (show Kd.M k32 _ _ _ (⟨42, a0, 0, 0, (-2147483648)⟩ : S32) [.int .i64 42, .int .i64 a0, .int .i64 0, .int .i64 0, .int .i32 (-2147483648)] from (k32_mkM _ _ _ (⟨42, a0, 0, 0, (-2147483648)⟩ : S32) )) (Reps.none _ _))); intro v240 w18 ho19 hb hg_ hnew_; clear hg_ hnew_; (first | rw [← Ny239.out] at ho19 | (simp only [Int.reduceToNat] at ho19; rw [← Ny239.out] at ho19)); have n0_ := Aside0.mk (Kd.R_lower ho19 (below_size (m_0))); have n1_ := Aside0.mk (below_step (m_0) hb); clear HB; have HO241 := n0_; have HB := n1_; clear n0_ n1_; clear hb ho19))
               go_ret
               exact ⟨_, m_3, by (with_reducible repeat (first | apply Kd.R_alloc | apply Kd.R_drewN | apply Kd.R_drew)); exact HO241.out, m_0⟩
             · rw [if_neg c17] at H
               have c17b0 : (x5_13 == 0) = false := beq_eq_false_iff_ne.mpr c17
               have c17b1 : (x5_13 != 0) = true := bne_iff_ne.mpr c17
               by_cases c20 : y239.length < 3518437208883
               · rw [if_pos c20] at H
                 have LMc20 := Aside0.mk c20
                 clear c20
                 obtain ⟨y242, hy_⟩ : ∃ y_ : List (S32), y_ = (y239 ++ [(⟨19, a0, a0, 0, wrap32 (x5_13)⟩ : S32)]) := ⟨_, rfl⟩
                 replace H : (some y242) = some r := q_2
                 have Ny242 := Aside0.mk hy_
                 clear hy_
                 obtain rfl := Option.some.inj H
                 go_wp2_with (first | ((with_reducible refine gate_dst (N := 43) rfl ?_); refine Kd.R_lit k32 _ 32 ?hg (N := 43) ?hd (xs := ([(⟨42, a0, 0, 0, (-2147483648)⟩ : S32)] : List (S32))) (inner := [.int .i64 42, .int .i64 a0, .int .i64 0, .int .i64 0, .int .i32 (-2147483648)]) (ok := fun _ => True) (okp := fun _ => True) ?hr ?hp (fun _ hk => hk) trivial (Below.refl _ _) (Nat.le_refl _) (by simp) ?_; (case hd => rfl); (case hg => rfl); (case hr => exact m_14); (case hp => exact (Reps.c5 (show Kd.M k32 _ _ _ (⟨42, a0, 0, 0, (-2147483648)⟩ : S32) [.int .i64 42, .int .i64 a0, .int .i64 0, .int .i64 0, .int .i32 (-2147483648)] from (k32_mkM _ _ _ (⟨42, a0, 0, 0, (-2147483648)⟩ : S32) )) (Reps.none _ _))); intro v240 w21 ho22 hb hg_ hnew_; clear hg_ hnew_; (first | rw [← Ny239.out] at ho22 | (simp only [Int.reduceToNat] at ho22; rw [← Ny239.out] at ho22)); have n0_ := Aside0.mk (Kd.R_lower ho22 (below_size (m_0))); have n1_ := Aside0.mk (below_step (m_0) hb); clear HB; have HO241 := n0_; have HB := n1_; clear n0_ n1_; clear hb ho22) | ((with_reducible refine gate_builtin (b := .append) (xs := #[.tmp 46, .tmp 52]) rfl ?_); at_builtin; refine Kd.R_append k32 (w0 := w) w.heap.size rfl (.tmp 46) (.tmp 52) 56 32 (.agg #[(.int .i64 0), (.int .i64 0), (.int .i64 0), (.int .i64 0), (.int .i32 0)]) 40 rfl Try.underlying56 info32 rfl (by decide) (by omega) v240 y239 (⟨19, a0, a0, 0, wrap32 (x5_13)⟩ : S32) [.int .i64 19, .int .i64 a0, .int .i64 a0, .int .i64 0, .int .i32 (wrap32 (x5_13))] (fun _ => True) (fun _ => False) rfl rfl ?aP (fun _ hk => hk.elim) ?aF ?aO ?aB ?aS ?aL ?_; (case aP => exact k32_mkM _ _ _ (⟨19, a0, a0, 0, wrap32 (x5_13)⟩ : S32)); (case aB => exact (m_0)); (case aF => exact (fun _ _ => trivial)); (case aO => exact (by (with_reducible repeat (first | apply Kd.R_alloc | apply Kd.R_drewN | apply Kd.R_drew)); exact HO241.out)); (case aS => exact (below_size (m_0))); (case aL => have := LMc20.out; omega); intro v243 w23 ho hb hg hat; rw [← Ny242.out] at ho; have n0_ := Aside0.mk (hb); have n1_ := Aside0.mk (ho); clear HB; clear HO241; have HB := n0_; have HO244 := n1_; clear n0_ n1_; clear ho hb hg hat))
                 go_ret
                 exact ⟨_, m_3, by (with_reducible repeat (first | apply Kd.R_alloc | apply Kd.R_drewN | apply Kd.R_drew)); exact HO244.out, m_0⟩
               · rw [if_neg c20] at H
                 exact absurd H (by simp)
           · rw [if_neg c16] at H
             have c16b0 : ((wrap64 ((wrap64 (a1)) - x5_13)) == 2147483648) = false := beq_eq_false_iff_ne.mpr c16
             have c16b1 : ((wrap64 ((wrap64 (a1)) - x5_13)) != 2147483648) = true := bne_iff_ne.mpr c16
             obtain ⟨y245, hy_⟩ : ∃ y_ : List (S32), y_ = (([(⟨42, a0, 0, 0, wrap32 (wrap64 ((wrap64 (a1)) - x5_13))⟩ : S32)] : List (S32))) := ⟨_, rfl⟩
             replace H : (if x5_13 = 0 then (some y245) else (if y245.length < 3518437208883 then (some (y245 ++ [(⟨19, a0, a0, 0, wrap32 (x5_13)⟩ : S32)])) else (none))) = some r := q_2
             have Ny245 := Aside0.mk hy_
             clear hy_
             by_cases c24 : x5_13 = 0
             · rw [if_pos c24] at H
               have c24b0 : (x5_13 == 0) = true := beq_iff_eq.mpr c24
               have c24b1 : (x5_13 != 0) = false := bne_eq_false_iff_eq.mpr c24
               clear c24
               obtain rfl := Option.some.inj H
               go_wp2_with (first | ((with_reducible refine gate_dst (N := 43) rfl ?_); refine Kd.R_lit k32 _ 32 ?hg (N := 43) ?hd (xs := ([(⟨42, a0, 0, 0, wrap32 (wrap64 ((wrap64 (a1)) - x5_13))⟩ : S32)] : List (S32))) (inner := [.int .i64 42, .int .i64 a0, .int .i64 0, .int .i64 0, .int .i32 (wrap32 (wrap64 ((wrap64 (a1)) - x5_13)))]) (ok := fun _ => True) (okp := fun _ => True) ?hr ?hp (fun _ hk => hk) trivial (Below.refl _ _) (Nat.le_refl _) (by simp) ?_; (case hd => rfl); (case hg => rfl); (case hr => exact m_14); (case hp => exact (Reps.c5 (show Kd.M k32 _ _ _ (⟨42, a0, 0, 0, wrap32 (wrap64 ((wrap64 (a1)) - x5_13))⟩ : S32) [.int .i64 42, .int .i64 a0, .int .i64 0, .int .i64 0, .int .i32 (wrap32 (wrap64 ((wrap64 (a1)) - x5_13)))] from (k32_mkM _ _ _ (⟨42, a0, 0, 0, wrap32 (wrap64 ((wrap64 (a1)) - x5_13))⟩ : S32) )) (Reps.none _ _))); intro v246 w25 ho26 hb hg_ hnew_; clear hg_ hnew_; (first | rw [← Ny245.out] at ho26 | (simp only [Int.reduceToNat] at ho26; rw [← Ny245.out] at ho26)); have n0_ := Aside0.mk (Kd.R_lower ho26 (below_size (m_0))); have n1_ := Aside0.mk (below_step (m_0) hb); clear HB; have HO247 := n0_; have HB := n1_; clear n0_ n1_; clear hb ho26))
               go_ret
               exact ⟨_, m_3, by (with_reducible repeat (first | apply Kd.R_alloc | apply Kd.R_drewN | apply Kd.R_drew)); exact HO247.out, m_0⟩
             · rw [if_neg c24] at H
               have c24b0 : (x5_13 == 0) = false := beq_eq_false_iff_ne.mpr c24
               have c24b1 : (x5_13 != 0) = true := bne_iff_ne.mpr c24
               by_cases c27 : y245.length < 3518437208883
               · rw [if_pos c27] at H
                 have LMc27 := Aside0.mk c27
                 clear c27
                 obtain ⟨y248, hy_⟩ : ∃ y_ : List (S32), y_ = (y245 ++ [(⟨19, a0, a0, 0, wrap32 (x5_13)⟩ : S32)]) := ⟨_, rfl⟩
                 replace H : (some y248) = some r := q_2
                 have Ny248 := Aside0.mk hy_
                 clear hy_
                 obtain rfl := Option.some.inj H
                 go_wp2_with (first | ((with_reducible refine gate_dst (N := 43) rfl ?_); refine Kd.R_lit k32 _ 32 ?hg (N := 43) ?hd (xs := ([(⟨42, a0, 0, 0, wrap32 (wrap64 ((wrap64 (a1)) - x5_13))⟩ : S32)] : List (S32))) (inner := [.int .i64 42, .int .i64 a0, .int .i64 0, .int .i64 0, .int .i32 (wrap32 (wrap64 ((wrap64 (a1)) - x5_13)))]) (ok := fun _ => True) (okp := fun _ => True) ?hr ?hp (fun _ hk => hk) trivial (Below.refl _ _) (Nat.le_refl _) (by simp) ?_; (case hd => rfl); (case hg => rfl); (case hr => exact m_14); (case hp => exact (Reps.c5 (show Kd.M k32 _ _ _ (⟨42, a0, 0, 0, wrap32 (wrap64 ((wrap64 (a1)) - x5_13))⟩ : S32) [.int .i64 42, .int .i64 a0, .int .i64 0, .int .i64 0, .int .i32 (wrap32 (wrap64 ((wrap64 (a1)) - x5_13)))] from (k32_mkM _ _ _ (⟨42, a0, 0, 0, wrap32 (wrap64 ((wrap64 (a1)) - x5_13))⟩ : S32) )) (Reps.none _ _))); intro v246 w28 ho29 hb hg_ hnew_; clear hg_ hnew_; (first | rw [← Ny245.out] at ho29 | (simp only [Int.reduceToNat] at ho29; rw [← Ny245.out] at ho29)); have n0_ := Aside0.mk (Kd.R_lower ho29 (below_size (m_0))); have n1_ := Aside0.mk (below_step (m_0) hb); clear HB; have HO247 := n0_; have HB := n1_; clear n0_ n1_; clear hb ho29) | ((with_reducible refine gate_builtin (b := .append) (xs := #[.tmp 46, .tmp 52]) rfl ?_); at_builtin; refine Kd.R_append k32 (w0 := w) w.heap.size rfl (.tmp 46) (.tmp 52) 56 32 (.agg #[(.int .i64 0), (.int .i64 0), (.int .i64 0), (.int .i64 0), (.int .i32 0)]) 40 rfl Try.underlying56 info32 rfl (by decide) (by omega) v246 y245 (⟨19, a0, a0, 0, wrap32 (x5_13)⟩ : S32) [.int .i64 19, .int .i64 a0, .int .i64 a0, .int .i64 0, .int .i32 (wrap32 (x5_13))] (fun _ => True) (fun _ => False) rfl rfl ?aP (fun _ hk => hk.elim) ?aF ?aO ?aB ?aS ?aL ?_; (case aP => exact k32_mkM _ _ _ (⟨19, a0, a0, 0, wrap32 (x5_13)⟩ : S32)); (case aB => exact (m_0)); (case aF => exact (fun _ _ => trivial)); (case aO => exact (by (with_reducible repeat (first | apply Kd.R_alloc | apply Kd.R_drewN | apply Kd.R_drew)); exact HO247.out)); (case aS => exact (below_size (m_0))); (case aL => have := LMc27.out; omega); intro v249 w30 ho hb hg hat; rw [← Ny248.out] at ho; have n0_ := Aside0.mk (hb); have n1_ := Aside0.mk (ho); clear HB; clear HO247; have HB := n0_; have HO250 := n1_; clear n0_ n1_; clear ho hb hg hat))
                 go_ret
                 exact ⟨_, m_3, by (with_reducible repeat (first | apply Kd.R_alloc | apply Kd.R_drewN | apply Kd.R_drew)); exact HO250.out, m_0⟩
               · rw [if_neg c27] at H
                 exact absurd H (by simp)
end Go.Proofs.Ytihecimbhhlhaaa.PRs
end
section
namespace Go.Proofs.Ytihecimbhhlhaaa.PRs
open Go.RowKit Go.Proofs.YtihecimbhhlhaaaW.PrintWords Go.Proofs.YtihecimbhhlhaaaW.PrintLast Go.Proofs.YtihecimbhhlhaaaW.PrintMore
set_option linter.unusedVariables false
set_option linter.unusedSimpArgs false
attribute [local go_sem high] eqA32
/-! ### d13F: function 22 -/
mutual
def d13F.l0 : Nat → List (S34) → Int → Int → Int → Option (Int)
 | 0, _, _, _, _ => none
 | k + 1, x0, x1, x5, x6 => if x6 < (x0.length : Int) then (if 0 ≤ x6 then (if ((rd_T34 x0 x6).f0) = 2 then (d13F.j1 k x0 x1 x5 x6 (((rd_T34 x0 x6).f2) == x1)) else (d13F.j1 k x0 x1 x5 x6 false)) else (none)) else (some x5)
def d13F.j1 : Nat → List (S34) → Int → Int → Int → Bool → Option (Int)
 | 0, _, _, _, _, _ => none
 | k + 1, x0, x1, x5, x6, x27 => if x27 = true then (if x5 ≥ 0 then (some (-2)) else (d13F.l0 k x0 x1 x6 (wrap64 (x6 + 1)))) else (d13F.l0 k x0 x1 x5 (wrap64 (x6 + 1)))
end
def d13F.f (k : Nat) (l0 : List (S34)) (a1 : Int) : Option (Int) := d13F.l0 k l0 a1 (-1) 0
theorem d13F.mono_l : ∀ k, (∀ y0 y1 y2 y3, LeO (d13F.l0 k y0 y1 y2 y3) (d13F.l0 (k + 1) y0 y1 y2 y3)) ∧ (∀ y0 y1 y2 y3 y4, LeO (d13F.j1 k y0 y1 y2 y3 y4) (d13F.j1 (k + 1) y0 y1 y2 y3 y4))
 | 0 => ⟨fun _ _ _ _ r h => by simp [d13F.l0] at h, fun _ _ _ _ _ r h => by simp [d13F.j1] at h⟩
 | k + 1 => by
  obtain ⟨ih0, ih1⟩ := d13F.mono_l k
  refine ⟨?_, ?_⟩
  · intro y0 y1 y2 y3
    unfold d13F.l0
    repeat' first
    | (with_reducible exact ih0 _ _ _ _)
    | (with_reducible exact ih1 _ _ _ _ _)
    | (with_reducible exact LeO.refl _)
    | (with_reducible exact LeO.none _)
    | (with_reducible refine LeO.ite ?_ ?_)
    | (with_reducible refine LeO.bind ?_ (fun _ => ?_))
    | exact ih0 _ _ _ _
    | exact ih1 _ _ _ _ _
    | exact LeO.none _
    | refine LeO.ite ?_ ?_
    | refine LeO.bind ?_ (fun _ => ?_)
  · intro y0 y1 y2 y3 y4
    unfold d13F.j1
    repeat' first
    | (with_reducible exact ih0 _ _ _ _)
    | (with_reducible exact ih1 _ _ _ _ _)
    | (with_reducible exact LeO.refl _)
    | (with_reducible exact LeO.none _)
    | (with_reducible refine LeO.ite ?_ ?_)
    | (with_reducible refine LeO.bind ?_ (fun _ => ?_))
    | exact ih0 _ _ _ _
    | exact ih1 _ _ _ _ _
    | exact LeO.none _
    | refine LeO.ite ?_ ?_
    | refine LeO.bind ?_ (fun _ => ?_)
theorem d13F.mono : ∀ a0 a1 k, LeO (d13F.f k a0 a1) (d13F.f (k + 1) a0 a1) := by
 intro a0 a1 k
 obtain ⟨ih0, ih1⟩ := d13F.mono_l k
 unfold d13F.f
 repeat' first
  | (with_reducible exact ih0 _ _ _ _)
  | (with_reducible exact ih1 _ _ _ _ _)
  | (with_reducible exact LeO.refl _)
  | (with_reducible exact LeO.none _)
  | (with_reducible refine LeO.ite ?_ ?_)
  | (with_reducible refine LeO.bind ?_ (fun _ => ?_))
  | exact ih0 _ _ _ _
  | exact ih1 _ _ _ _ _
  | exact LeO.none _
  | refine LeO.ite ?_ ?_
  | refine LeO.bind ?_ (fun _ => ?_)
set_option maxHeartbeats 8000000 in
set_option maxRecDepth 100000 in
theorem d13F.calls (k : Nat) (A0 : Option Addr) (c0 : Nat) (l0 : List (S34)) (a1 : Int) (r : Int) (w : World) (hr0 : Kd.C k34 w A0 l0.length l0) (hc0 : l0.length ≤ c0) (h : d13F.f k l0 a1 = some r) :
 Calls Try.prog 22 #[.slice A0 l0.length c0, .int .i64 a1] w fun e w' => e = .returned (.int .i64 r) ∧ Drawn0 w w' := by
 have HR0 := Aside0.mk hr0
 have HC0 := Aside0.mk hc0
 clear hr0 hc0
 have H : (d13F.l0 k l0 a1 (-1) 0) = some r := h
 clear h
 have H' := Aside0.mk H
 clear H
 go_enter Try.func22, Try.ntmps22
 go_wp2
 go_loopg [5, 6] k (fun kq v5 v6 w' => ∃ (x5_1 : Int) (x6_1 : Int), v5 = .int .i64 x5_1 ∧ v6 = .int .i64 x6_1 ∧ Aside0 (d13F.l0 kq l0 a1 x5_1 x6_1 = some r) ∧ Aside0 (kq ≤ k) ∧ Drawn0 w w')
 case atStart => exact ⟨((-1)), (0), (m_5), (m_5), H', ⟨Nat.le_refl _⟩, m_19⟩
 case round =>
  clear H'
  obtain ⟨x5_1, x6_1, rfl, rfl, HA, HK1, ⟨m1, rfl⟩⟩ := hrel
  cases gk with
  | zero => exact absurd HA.out (by simp [d13F.l0])
  | succ k1 =>
   have H := HA.out
   clear HA
   simp only [d13F.l0] at H
   by_cases c3 : x6_1 < (l0.length : Int)
   · rw [if_pos c3] at H
     have c3b0 : decide (x6_1 < (l0.length : Int)) = true := decide_eq_true c3
     clear c3
     have HC4 := Aside0.mk H
     clear H
     go_upto_region 5 with (fail)
     go_cut [27] (fun v27 wc => ∃ (kq : Nat) (x27_3 : Bool), v27 = .bool x27_3 ∧ Aside0 (d13F.j1 kq l0 a1 x5_1 x6_1 x27_3 = some r) ∧ Aside0 (kq ≤ k1) ∧ Drawn0 w wc)
     case first =>
      have H := HC4.out
      clear HC4
      by_cases c5 : 0 ≤ x6_1
      · rw [if_pos c5] at H
        have c5b0 : decide (0 ≤ x6_1) = true := decide_eq_true c5
        clear c5
        (first | rw [c5b0] | (simp only [i64_w, i32_w]; rw [c5b0]) | skip)
        by_cases c6 : ((rd_T34 l0 x6_1).f0) = 2
        · rw [if_pos c6] at H
          have c6b0 : (((rd_T34 l0 x6_1).f0) == 2) = true := beq_iff_eq.mpr c6
          have c6b1 : (((rd_T34 l0 x6_1).f0) != 2) = false := bne_eq_false_iff_eq.mpr c6
          clear c6
          have H' := Aside0.mk H
          clear H
          have p223 : 0 ≤ (x6_1 : Int) := of_decide_eq_true (m_1)
          have q223 : x6_1 < (l0.length : Int) := of_decide_eq_true (m_1)
          obtain ⟨ad223, e223, hx223_0, hx223_1, hx223_2, hx223_3, hx223_4, hx223_5, hx223_6⟩ := at_T34 HR0.out x6_1 p223 q223
          cases e223
          replace p223 := eq_true p223
          replace q223 := eq_true q223
          have p224 : 0 ≤ (x6_1 : Int) := of_decide_eq_true (m_1)
          have q224 : x6_1 < (l0.length : Int) := of_decide_eq_true (m_1)
          obtain ⟨ad224, e224, hx224_0, hx224_1, hx224_2, hx224_3, hx224_4, hx224_5, hx224_6⟩ := at_T34 HR0.out x6_1 p224 q224
          obtain rfl : ad223 = ad224 := (by injection e224)
          replace p224 := eq_true p224
          replace q224 := eq_true q224
          go_wp2
          go_meet
          case rel => exact ⟨_, ((((rd_T34 l0 x6_1).f2) == a1)), (m_5), H', ⟨m_57⟩, m_19⟩
        · rw [if_neg c6] at H
          have c6b0 : (((rd_T34 l0 x6_1).f0) == 2) = false := beq_eq_false_iff_ne.mpr c6
          have c6b1 : (((rd_T34 l0 x6_1).f0) != 2) = true := bne_iff_ne.mpr c6
          have H' := Aside0.mk H
          clear H
          have p223 : 0 ≤ (x6_1 : Int) := of_decide_eq_true (m_1)
          have q223 : x6_1 < (l0.length : Int) := of_decide_eq_true (m_1)
          obtain ⟨ad223, e223, hx223_0, hx223_1, hx223_2, hx223_3, hx223_4, hx223_5, hx223_6⟩ := at_T34 HR0.out x6_1 p223 q223
          cases e223
          replace p223 := eq_true p223
          replace q223 := eq_true q223
          go_wp2
          go_meet
          case rel => exact ⟨_, (false), (m_5), H', ⟨m_57⟩, m_19⟩
      · rw [if_neg c5] at H
        exact absurd H (by simp)
     case rest =>
      clear HC4
      obtain ⟨kq, x27_3, rfl, HA, HJ3, ⟨mc3, rfl⟩⟩ := hcut
      cases kq with
      | zero => exact absurd HA.out (by simp [d13F.j1])
      | succ kj3 =>
       have H := HA.out
       clear HA
       simp only [d13F.j1] at H
       by_cases c7 : x27_3 = true
       · subst c7
         have H1 : (if x5_1 ≥ 0 then (some (-2)) else (d13F.l0 kj3 l0 a1 x6_1 (wrap64 (x6_1 + 1)))) = some r := by rw [if_pos rfl] at H; exact H
         clear H
         have H := H1
         clear H1
         by_cases c8 : x5_1 ≥ 0
         · rw [if_pos c8] at H
           have c8b0 : decide (0 ≤ x5_1) = true := decide_eq_true c8
           clear c8
           obtain rfl := Option.some.inj H
           go_wp2
           go_ret
           exact ⟨m_5, m_19⟩
         · rw [if_neg c8] at H
           have c8b0 : decide (0 ≤ x5_1) = false := decide_eq_false c8
           clear c8
           have H' := Aside0.mk H
           clear H
           go_wp2
           go_roundg kj3
           case measure => have := HK1.out; have := HJ3.out; omega
           case rel => exact ⟨(x6_1), (wrap64 (x6_1 + 1)), (m_5), (m_5), H', ⟨by have := HK1.out; have := HJ3.out; omega⟩, m_19⟩
       · replace c7 := Bool.eq_false_iff.mpr c7
         subst c7
         have H1 : (d13F.l0 kj3 l0 a1 x5_1 (wrap64 (x6_1 + 1))) = some r := by rw [if_neg (show ¬ (false = true) by decide)] at H; exact H
         clear H
         have H := H1
         clear H1
         have H' := Aside0.mk H
         clear H
         go_wp2
         go_roundg kj3
         case measure => have := HK1.out; have := HJ3.out; omega
         case rel => exact ⟨(x5_1), (wrap64 (x6_1 + 1)), (m_5), (m_5), H', ⟨by have := HK1.out; have := HJ3.out; omega⟩, m_19⟩
   · rw [if_neg c3] at H
     have c3b0 : decide (x6_1 < (l0.length : Int)) = false := decide_eq_false c3
     clear c3
     obtain rfl := Option.some.inj H
     go_wp2
     go_ret
     exact ⟨m_5, m_19⟩
end Go.Proofs.Ytihecimbhhlhaaa.PRs
end
section
namespace Go.Proofs.Ytihecimbhhlhaaa.PRs
open Go.RowKit Go.Proofs.YtihecimbhhlhaaaW.PrintWords Go.Proofs.YtihecimbhhlhaaaW.PrintLast Go.Proofs.YtihecimbhhlhaaaW.PrintMore
set_option linter.unusedVariables false
set_option linter.unusedSimpArgs false
attribute [local go_sem high] eqA32
/-! ### d13B: function 10 -/
def d13B.f (k : Nat) (l0 : List (S34)) (l1 : List Int) (a2 : Int) : Option (Int) := if 0 ≤ a2 then (if a2 < (l0.length : Int) then ((d13F.f k l0 ((rd_T34 l0 a2).f2)).bind fun t226 => (if 0 ≤ t226 then (if t226 < (l1.length : Int) then (if a2 < (l1.length : Int) then (some (wrap64 ((rd l1 t226) - (rd l1 a2)))) else (none)) else (none)) else (none))) else (none)) else (none)
theorem d13B.mono : ∀ a0 a1 a2 k, LeO (d13B.f k a0 a1 a2) (d13B.f (k + 1) a0 a1 a2) := by
 intro a0 a1 a2 k
 unfold d13B.f
 repeat' first
  | (with_reducible exact d13F.mono _ _ _)
  | (with_reducible exact LeO.refl _)
  | (with_reducible exact LeO.none _)
  | (with_reducible refine LeO.ite ?_ ?_)
  | (with_reducible refine LeO.bind ?_ (fun _ => ?_))
  | exact d13F.mono _ _ _
  | exact LeO.none _
  | refine LeO.ite ?_ ?_
  | refine LeO.bind ?_ (fun _ => ?_)
set_option maxHeartbeats 8000000 in
set_option maxRecDepth 100000 in
theorem d13B.calls (k : Nat) (A0 : Option Addr) (c0 : Nat) (l0 : List (S34)) (A1 : Option Addr) (c1 : Nat) (l1 : List Int) (a2 : Int) (r : Int) (w : World) (hr0 : Kd.C k34 w A0 l0.length l0) (hc0 : l0.length ≤ c0) (hr1 : Kd.C (Kd.int .i64) w A1 l1.length l1) (hc1 : l1.length ≤ c1) (h : d13B.f k l0 l1 a2 = some r) :
 Calls Try.prog 10 #[.slice A0 l0.length c0, .slice A1 l1.length c1, .int .i64 a2] w fun e w' => e = .returned (.int .i64 r) ∧ Drawn0 w w' := by
 have HR0 := Aside0.mk hr0
 have HC0 := Aside0.mk hc0
 clear hr0 hc0
 have HR1 := Aside0.mk hr1
 have HC1 := Aside0.mk hc1
 clear hr1 hc1
 have H : (if 0 ≤ a2 then (if a2 < (l0.length : Int) then ((d13F.f k l0 ((rd_T34 l0 a2).f2)).bind fun t226 => (if 0 ≤ t226 then (if t226 < (l1.length : Int) then (if a2 < (l1.length : Int) then (some (wrap64 ((rd l1 t226) - (rd l1 a2)))) else (none)) else (none)) else (none))) else (none)) else (none)) = some r := h
 clear h
 by_cases c4 : 0 ≤ a2
 · rw [if_pos c4] at H
   have c4b0 : decide (0 ≤ a2) = true := decide_eq_true c4
   clear c4
   by_cases c5 : a2 < (l0.length : Int)
   · rw [if_pos c5] at H
     have c5b0 : decide (a2 < (l0.length : Int)) = true := decide_eq_true c5
     clear c5
     replace H := Option.bind_eq_some_iff.mp H
     obtain ⟨t226, A60, H⟩ := H
     replace H : (if 0 ≤ t226 then (if t226 < (l1.length : Int) then (if a2 < (l1.length : Int) then (some (wrap64 ((rd l1 t226) - (rd l1 a2)))) else (none)) else (none)) else (none)) = some r := H
     have A6 := Aside0.mk A60
     clear A60
     by_cases c7 : 0 ≤ t226
     · rw [if_pos c7] at H
       have c7b0 : decide (0 ≤ t226) = true := decide_eq_true c7
       clear c7
       by_cases c8 : t226 < (l1.length : Int)
       · rw [if_pos c8] at H
         have c8b0 : decide (t226 < (l1.length : Int)) = true := decide_eq_true c8
         clear c8
         by_cases c9 : a2 < (l1.length : Int)
         · rw [if_pos c9] at H
           have c9b0 : decide (a2 < (l1.length : Int)) = true := decide_eq_true c9
           clear c9
           obtain rfl := Option.some.inj H
           have p225 : 0 ≤ (a2 : Int) := of_decide_eq_true (m_1)
           have q225 : a2 < (l0.length : Int) := of_decide_eq_true (m_1)
           obtain ⟨ad225, e225, hx225_0, hx225_1, hx225_2, hx225_3, hx225_4, hx225_5, hx225_6⟩ := at_T34 HR0.out a2 p225 q225
           cases e225
           replace p225 := eq_true p225
           replace q225 := eq_true q225
           go_enter Try.func10, Try.ntmps10
           go_wp2_with (first | (go_at_call 22; (with_reducible refine (d13F.calls k _ _ l0 ((rd_T34 l0 a2).f2) t226 _ ?side1 ?side2 A6.out).mono ?_); (case side1 => exact m_44); (case side2 => exact HC0.out); rintro e w' ⟨rfl, ⟨nd, rfl⟩⟩; (try first | exact ⟨rfl, _, World.drewN_drewN _ _ _⟩ | exact ⟨rfl, _, Eq.trans (World.drewN_drewN _ _ _) (congrArg (World.drewN _) (Nat.add_assoc _ _ _))⟩); have p227 : 0 ≤ (t226 : Int) := of_decide_eq_true (m_1); have q227 : t226 < (l1.length : Int) := of_decide_eq_true (m_1); obtain ⟨ad227, e227, hx227_0⟩ := Kd.at_int HR1.out t226 p227 q227; cases e227; replace p227 := eq_true p227; replace q227 := eq_true q227; have p228 : 0 ≤ (a2 : Int) := of_decide_eq_true (m_1); have q228 : a2 < (l1.length : Int) := of_decide_eq_true (m_1); obtain ⟨ad228, e228, hx228_0⟩ := Kd.at_int HR1.out a2 p228 q228; obtain rfl : ad227 = ad228 := (by injection e228); replace p228 := eq_true p228; replace q228 := eq_true q228))
           repeat (go_quiet (first | (go_at_call 22; (with_reducible refine (d13F.calls k _ _ l0 ((rd_T34 l0 a2).f2) t226 _ ?side1 ?side2 A6.out).mono ?_); (case side1 => exact m_44); (case side2 => exact HC0.out); rintro e w' ⟨rfl, ⟨nd, rfl⟩⟩; (try first | exact ⟨rfl, _, World.drewN_drewN _ _ _⟩ | exact ⟨rfl, _, Eq.trans (World.drewN_drewN _ _ _) (congrArg (World.drewN _) (Nat.add_assoc _ _ _))⟩); have p227 : 0 ≤ (t226 : Int) := of_decide_eq_true (m_1); have q227 : t226 < (l1.length : Int) := of_decide_eq_true (m_1); obtain ⟨ad227, e227, hx227_0⟩ := Kd.at_int HR1.out t226 p227 q227; cases e227; replace p227 := eq_true p227; replace q227 := eq_true q227; have p228 : 0 ≤ (a2 : Int) := of_decide_eq_true (m_1); have q228 : a2 < (l1.length : Int) := of_decide_eq_true (m_1); obtain ⟨ad228, e228, hx228_0⟩ := Kd.at_int HR1.out a2 p228 q228; obtain rfl : ad227 = ad228 := (by injection e228); replace p228 := eq_true p228; replace q228 := eq_true q228)); try go_wp2_with (first | (go_at_call 22; (with_reducible refine (d13F.calls k _ _ l0 ((rd_T34 l0 a2).f2) t226 _ ?side1 ?side2 A6.out).mono ?_); (case side1 => exact m_44); (case side2 => exact HC0.out); rintro e w' ⟨rfl, ⟨nd, rfl⟩⟩; (try first | exact ⟨rfl, _, World.drewN_drewN _ _ _⟩ | exact ⟨rfl, _, Eq.trans (World.drewN_drewN _ _ _) (congrArg (World.drewN _) (Nat.add_assoc _ _ _))⟩); have p227 : 0 ≤ (t226 : Int) := of_decide_eq_true (m_1); have q227 : t226 < (l1.length : Int) := of_decide_eq_true (m_1); obtain ⟨ad227, e227, hx227_0⟩ := Kd.at_int HR1.out t226 p227 q227; cases e227; replace p227 := eq_true p227; replace q227 := eq_true q227; have p228 : 0 ≤ (a2 : Int) := of_decide_eq_true (m_1); have q228 : a2 < (l1.length : Int) := of_decide_eq_true (m_1); obtain ⟨ad228, e228, hx228_0⟩ := Kd.at_int HR1.out a2 p228 q228; obtain rfl : ad227 = ad228 := (by injection e228); replace p228 := eq_true p228; replace q228 := eq_true q228)))
           go_ret
           exact ⟨by first | rfl | (simp; done) | (simp [*]; done) | (rw [IntWalk.i64_left]; rfl), m_19⟩
         · rw [if_neg c9] at H
           exact absurd H (by simp)
       · rw [if_neg c8] at H
         exact absurd H (by simp)
     · rw [if_neg c7] at H
       exact absurd H (by simp)
   · rw [if_neg c5] at H
     exact absurd H (by simp)
 · rw [if_neg c4] at H
   exact absurd H (by simp)
-- NOT PRINTED: function 3 (pintlelaw13_RelaxReach)
end Go.Proofs.Ytihecimbhhlhaaa.PRs
end
section
namespace Go.Proofs.Ytihecimbhhlhaaa.PRs
open Go.RowKit Go.Proofs.YtihecimbhhlhaaaW.PrintWords Go.Proofs.YtihecimbhhlhaaaW.PrintLast Go.Proofs.YtihecimbhhlhaaaW.PrintMore
set_option linter.unusedVariables false
set_option linter.unusedSimpArgs false
/-! ### d11S: function 27 -/
def d11S.l0 : Nat → List Int → List Int → Int → Option (Bool)
 | 0, _, _, _ => none
 | k + 1, x0, x1, x5 => if x5 < (x0.length : Int) then (if 0 ≤ x5 then (if x5 < (x1.length : Int) then (if (rd x0 x5) = (rd x1 x5) then (d11S.l0 k x0 x1 (wrap64 (x5 + 1))) else (some false)) else (none)) else (none)) else (some true)
def d11S.f (k : Nat) (l0 : List Int) (l1 : List Int) : Option (Bool) := if (l0.length : Int) = (l1.length : Int) then (d11S.l0 k l0 l1 0) else (some false)
set_option maxHeartbeats 8000000 in
set_option maxRecDepth 100000 in
theorem d11S.calls (k : Nat) (A0 : Option Addr) (c0 : Nat) (l0 : List Int) (A1 : Option Addr) (c1 : Nat) (l1 : List Int) (r : Bool) (w : World) (hr0 : Kd.C (Kd.int .u32) w A0 l0.length l0) (hc0 : l0.length ≤ c0) (hr1 : Kd.C (Kd.int .u32) w A1 l1.length l1) (hc1 : l1.length ≤ c1) (h : d11S.f k l0 l1 = some r) :
 Calls Try.prog 27 #[.slice A0 l0.length c0, .slice A1 l1.length c1] w fun e w' => e = .returned (.bool r) ∧ Drawn0 w w' := by
 have HR0 := Aside0.mk hr0
 have HC0 := Aside0.mk hc0
 clear hr0 hc0
 have HR1 := Aside0.mk hr1
 have HC1 := Aside0.mk hc1
 clear hr1 hc1
 have H : (if (l0.length : Int) = (l1.length : Int) then (d11S.l0 k l0 l1 0) else (some false)) = some r := h
 clear h
 by_cases c3 : (l0.length : Int) = (l1.length : Int)
 · rw [if_pos c3] at H
   have c3b0 : ((l0.length : Int) == (l1.length : Int)) = true := beq_iff_eq.mpr c3
   have c3b1 : ((l0.length : Int) != (l1.length : Int)) = false := bne_eq_false_iff_eq.mpr c3
   have c3b2 : (l0.length == l1.length) = true := by first | simpa using c3 | (simp at c3 ⊢; omega)
   clear c3
   have H' := Aside0.mk H
   clear H
   go_enter Try.func27, Try.ntmps27
   go_wp2
   repeat (go_quiet (fail); try go_wp2)
   go_loopg [5] k (fun kq v5 w' => ∃ (x5_1 : Int), v5 = .int .i64 x5_1 ∧ Aside0 (d11S.l0 kq l0 l1 x5_1 = some r) ∧ Aside0 (kq ≤ k) ∧ Drawn0 w w')
   case atStart => exact ⟨(0), (m_5), H', ⟨Nat.le_refl _⟩, m_19⟩
   case round =>
    clear H'
    obtain ⟨x5_1, rfl, HA, HK1, ⟨m1, rfl⟩⟩ := hrel
    cases gk with
    | zero => exact absurd HA.out (by simp [d11S.l0])
    | succ k1 =>
     have H := HA.out
     clear HA
     simp only [d11S.l0] at H
     by_cases c4 : x5_1 < (l0.length : Int)
     · rw [if_pos c4] at H
       have c4b0 : decide (x5_1 < (l0.length : Int)) = true := decide_eq_true c4
       clear c4
       by_cases c5 : 0 ≤ x5_1
       · rw [if_pos c5] at H
         have c5b0 : decide (0 ≤ x5_1) = true := decide_eq_true c5
         clear c5
         by_cases c6 : x5_1 < (l1.length : Int)
         · rw [if_pos c6] at H
           have c6b0 : decide (x5_1 < (l1.length : Int)) = true := decide_eq_true c6
           clear c6
           by_cases c7 : (rd l0 x5_1) = (rd l1 x5_1)
           · rw [if_pos c7] at H
             have c7b0 : ((rd l0 x5_1) == (rd l1 x5_1)) = true := beq_iff_eq.mpr c7
             have c7b1 : ((rd l0 x5_1) != (rd l1 x5_1)) = false := bne_eq_false_iff_eq.mpr c7
             clear c7
             have H' := Aside0.mk H
             clear H
             have p275 : 0 ≤ (x5_1 : Int) := of_decide_eq_true (m_1)
             have q275 : x5_1 < (l0.length : Int) := of_decide_eq_true (m_1)
             obtain ⟨ad275, e275, hx275_0⟩ := Kd.at_int HR0.out x5_1 p275 q275
             cases e275
             replace p275 := eq_true p275
             replace q275 := eq_true q275
             have p276 : 0 ≤ (x5_1 : Int) := of_decide_eq_true (m_1)
             have q276 : x5_1 < (l1.length : Int) := of_decide_eq_true (m_1)
             obtain ⟨ad276, e276, hx276_0⟩ := Kd.at_int HR1.out x5_1 p276 q276
             cases e276
             replace p276 := eq_true p276
             replace q276 := eq_true q276
             go_wp2
             repeat (go_quiet (fail); try go_wp2)
             go_roundg k1
             case measure => have := HK1.out; omega
             case rel => exact ⟨(wrap64 (x5_1 + 1)), (m_5), H', ⟨by have := HK1.out; omega⟩, m_19⟩
           · rw [if_neg c7] at H
             have c7b0 : ((rd l0 x5_1) == (rd l1 x5_1)) = false := beq_eq_false_iff_ne.mpr c7
             have c7b1 : ((rd l0 x5_1) != (rd l1 x5_1)) = true := bne_iff_ne.mpr c7
             obtain rfl := Option.some.inj H
             have p275 : 0 ≤ (x5_1 : Int) := of_decide_eq_true (m_1)
             have q275 : x5_1 < (l0.length : Int) := of_decide_eq_true (m_1)
             obtain ⟨ad275, e275, hx275_0⟩ := Kd.at_int HR0.out x5_1 p275 q275
             cases e275
             replace p275 := eq_true p275
             replace q275 := eq_true q275
             have p276 : 0 ≤ (x5_1 : Int) := of_decide_eq_true (m_1)
             have q276 : x5_1 < (l1.length : Int) := of_decide_eq_true (m_1)
             obtain ⟨ad276, e276, hx276_0⟩ := Kd.at_int HR1.out x5_1 p276 q276
             cases e276
             replace p276 := eq_true p276
             replace q276 := eq_true q276
             go_wp2
             repeat (go_quiet (fail); try go_wp2)
             go_ret
             exact ⟨m_5, m_19⟩
         · rw [if_neg c6] at H
           exact absurd H (by simp)
       · rw [if_neg c5] at H
         exact absurd H (by simp)
     · rw [if_neg c4] at H
       have c4b0 : decide (x5_1 < (l0.length : Int)) = false := decide_eq_false c4
       clear c4
       obtain rfl := Option.some.inj H
       go_wp2
       repeat (go_quiet (fail); try go_wp2)
       go_ret
       exact ⟨m_5, m_19⟩
 · rw [if_neg c3] at H
   have c3b0 : ((l0.length : Int) == (l1.length : Int)) = false := beq_eq_false_iff_ne.mpr c3
   have c3b1 : ((l0.length : Int) != (l1.length : Int)) = true := bne_iff_ne.mpr c3
   have c3b2 : (l0.length == l1.length) = false := by first | simpa using c3 | (simp at c3 ⊢; omega)
   obtain rfl := Option.some.inj H
   go_enter Try.func27, Try.ntmps27
   go_wp2
   repeat (go_quiet (fail); try go_wp2)
   go_ret
   exact ⟨m_5, m_19⟩
-- NOT PRINTED: function 13 (pintlelaw14_lives)
end Go.Proofs.Ytihecimbhhlhaaa.PRs
end
