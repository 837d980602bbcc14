/- d13P: a plain function with the same answers as the program's, and the proof of it, as a program has written them. -/
import Derived.Test.YtihecimbhhlhaaaRsG1
import Derived.Test.YtihecimbhhlhaaaRsG7
import Derived.Test.YtihecimbhhlhaaaRsMc
namespace Go.Proofs.Ytihecimbhhlhaaa.PRs
open Go.RowKit Go.Proofs.YtihecimbhhlhaaaW.PrintWords Go.Proofs.YtihecimbhhlhaaaW.PrintLast Go.Proofs.YtihecimbhhlhaaaW.PrintMore
set_option linter.unusedVariables false
set_option linter.unusedSimpArgs false
/-! ### d13P: function 11 -/
mutual
def d13P.l0 : Nat → List (S34) → List Bool → List Int → Int → Int → Option (List Int)
 | 0, _, _, _, _, _ => none
 | k + 1, x0, x1, x5, x6, x7 => if x7 < (x0.length : Int) then (if x5.length < 17592186044416 then ((some (x5 ++ [x6] : List Int)).bind fun y257 => (if 0 ≤ x7 then (if ((rd_T34 x0 x7).f0) = 2 then (d13P.j1 k x0 x1 y257 x6 x7 0) else (d13P.j1 k x0 x1 y257 x6 x7 4)) else (none))) else (none)) else (if x5.length < 17592186044416 then (some (x5 ++ [x6])) else (none))
def d13P.j1 : Nat → List (S34) → List Bool → List Int → Int → Int → Int → Option (List Int)
 | 0, _, _, _, _, _, _ => none
 | k + 1, x0, x1, x5, x6, x7, x8 => if 0 ≤ x7 then (if x7 < (x0.length : Int) then (if ((rd_T34 x0 x7).f0) = 5 then ((d12S.f k ((rd_T34 x0 x7).f1.f1) ((rd_T34 x0 x7).f1.f4)).bind fun t264 => (if x7 < (x1.length : Int) then (if rdOf false x1 x7 = true then (d13P.l0 k x0 x1 x5 (wrap64 (x6 + 8)) (wrap64 (x7 + 1))) else (d13P.l0 k x0 x1 x5 (wrap64 (x6 + (wrap64 (4 * (t264.length : Int))))) (wrap64 (x7 + 1)))) else (none))) else (if x7 < (x1.length : Int) then (if rdOf false x1 x7 = true then (d13P.l0 k x0 x1 x5 (wrap64 (x6 + 8)) (wrap64 (x7 + 1))) else (d13P.l0 k x0 x1 x5 (wrap64 (x6 + x8)) (wrap64 (x7 + 1)))) else (none))) else (none)) else (none)
end
def d13P.f (k : Nat) (l0 : List (S34)) (l1 : List Bool) : Option (List Int) := d13P.l0 k l0 l1 (([] : List Int)) 0 0
theorem d13P.mono_l : ∀ k, (∀ y0 y1 y2 y3 y4, LeO (d13P.l0 k y0 y1 y2 y3 y4) (d13P.l0 (k + 1) y0 y1 y2 y3 y4)) ∧ (∀ y0 y1 y2 y3 y4 y5, LeO (d13P.j1 k y0 y1 y2 y3 y4 y5) (d13P.j1 (k + 1) y0 y1 y2 y3 y4 y5))
 | 0 => ⟨fun _ _ _ _ _ r h => by simp [d13P.l0] at h, fun _ _ _ _ _ _ r h => by simp [d13P.j1] at h⟩
 | k + 1 => by
  obtain ⟨ih0, ih1⟩ := d13P.mono_l k
  refine ⟨?_, ?_⟩
  · intro y0 y1 y2 y3 y4
    unfold d13P.l0
    repeat' first
    | (with_reducible exact ih0 _ _ _ _ _)
    | (with_reducible exact ih1 _ _ _ _ _ _)
    | (with_reducible exact d12S.mono _ _ _)
    | (with_reducible exact LeO.refl _)
    | (with_reducible exact LeO.none _)
    | (with_reducible refine LeO.ite ?_ ?_)
    | (with_reducible refine LeO.bind ?_ (fun _ => ?_))
    | exact ih0 _ _ _ _ _
    | exact ih1 _ _ _ _ _ _
    | exact d12S.mono _ _ _
    | exact LeO.none _
    | refine LeO.ite ?_ ?_
    | refine LeO.bind ?_ (fun _ => ?_)
  · intro y0 y1 y2 y3 y4 y5
    unfold d13P.j1
    repeat' first
    | (with_reducible exact ih0 _ _ _ _ _)
    | (with_reducible exact ih1 _ _ _ _ _ _)
    | (with_reducible exact d12S.mono _ _ _)
    | (with_reducible exact LeO.refl _)
    | (with_reducible exact LeO.none _)
    | (with_reducible refine LeO.ite ?_ ?_)
    | (with_reducible refine LeO.bind ?_ (fun _ => ?_))
    | exact ih0 _ _ _ _ _
    | exact ih1 _ _ _ _ _ _
    | exact d12S.mono _ _ _
    | exact LeO.none _
    | refine LeO.ite ?_ ?_
    | refine LeO.bind ?_ (fun _ => ?_)
theorem d13P.mono : ∀ a0 a1 k, LeO (d13P.f k a0 a1) (d13P.f (k + 1) a0 a1) := by
 intro a0 a1 k
 obtain ⟨ih0, ih1⟩ := d13P.mono_l k
 unfold d13P.f
 repeat' first
  | (with_reducible exact ih0 _ _ _ _ _)
  | (with_reducible exact ih1 _ _ _ _ _ _)
  | (with_reducible exact d12S.mono _ _ _)
  | (with_reducible exact LeO.refl _)
  | (with_reducible exact LeO.none _)
  | (with_reducible refine LeO.ite ?_ ?_)
  | (with_reducible refine LeO.bind ?_ (fun _ => ?_))
  | exact ih0 _ _ _ _ _
  | exact ih1 _ _ _ _ _ _
  | exact d12S.mono _ _ _
  | exact LeO.none _
  | refine LeO.ite ?_ ?_
  | refine LeO.bind ?_ (fun _ => ?_)
def d13P.T10 : Bool × List (List Nat × List Nat) := (true, [([], []), ([], []), ([0, 1], [0, 1]), ([2], [2]), ([3], [3]), ([4], [4]), ([], []), ([], []), ([6, 7], [6, 7]), ([8], [8]), ([9], [9]), ([10], [10]), ([5, 11], [5, 11]), ([12], [12]), ([13], [13]), ([14, 12, 0, 1, 2, 3, 4, 5, 6, 7, 8, 9, 10, 11, 12, 13, 14], [14])])
def d13P.B10 : List Nat := [0, 0, 3, 7, 15, 31, 0, 0, 192, 448, 960, 1984, 4095, 8191, 16383, 32767]
theorem d13P.tab10 : rtab .any (opsOf Try.f11 10) = d13P.T10 := by kernel_rfl
theorem d13P.bits10 : waitsOk d13P.T10.2 d13P.B10 = true := by kernel_rfl
set_option maxHeartbeats 8000000 in
set_option maxRecDepth 100000 in
theorem d13P.calls (k : Nat) (A0 : Option Addr) (c0 : Nat) (l0 : List (S34)) (A1 : Option Addr) (c1 : Nat) (l1 : List Bool) (r : List Int) (w : World) (hr0 : Kd.C k34 w A0 l0.length l0) (hc0 : l0.length ≤ c0) (hr1 : Kd.C Kd.bool w A1 l1.length l1) (hc1 : l1.length ≤ c1) (h : d13P.f k l0 l1 = some r) :
 Calls Try.prog 11 #[.slice A0 l0.length c0, .slice A1 l1.length c1] w fun e w' => ∃ v0_ : Value, e = .returned (v0_) ∧ Kd.R (Kd.int .i64) 3 w' w.heap.size (fun _ => True) v0_ r ∧ Below w.heap.size w w' := by
 have HR0 := Aside0.mk hr0
 have HC0 := Aside0.mk hc0
 clear hr0 hc0
 have HR1 := Aside0.mk hr1
 have HC1 := Aside0.mk hc1
 clear hr1 hc1
 have HB := Aside0.mk (Below.refl w.heap.size w)
 have H : (d13P.l0 k l0 l1 (([] : List Int)) 0 0) = some r := h
 clear h
 obtain ⟨y251, hy_⟩ : ∃ y_ : List Int, y_ = (([] : List Int)) := ⟨_, rfl⟩
 replace H : (d13P.l0 k l0 l1 y251 0 0) = some r := q_2
 have Ny251 := Aside0.mk hy_
 clear hy_
 have H' := Aside0.mk H
 clear H
 go_enter Try.func11, Try.ntmps11
 go_wp2_with (first | ((with_reducible refine gate_dst (N := 9) rfl ?_); refine Kd.R_lit (Kd.int .i64) _ 3 ?hg (N := 9) ?hd (xs := ([] : List Int)) (inner := []) (ok := fun _ => True) (okp := fun _ => True) ?hr ?hp (fun _ hk => hk) trivial (Below.refl _ _) (Nat.le_refl _) (by simp) ?_; (case hd => rfl); (case hg => rfl); (case hr => exact m_14); (case hp => exact (Reps.none _ _)); intro v252 w3 ho4 hb hg_ hnew_; clear hg_ hnew_; (first | rw [← Ny251.out] at ho4 | (simp only [Int.reduceToNat] at ho4; rw [← Ny251.out] at ho4)); have n0_ := Aside0.mk (Kd.R_lower ho4 (below_size (m_0))); have n1_ := Aside0.mk (below_step (m_0) hb); clear HB; have HO253 := n0_; have HB := n1_; clear n0_ n1_; clear hb ho4))
 go_loopg [5, 6, 7] k (fun kq v5 v6 v7 w' => ∃ (x5_1 : List Int) (x6_1 : Int) (x7_1 : Int), v6 = .int .i64 x6_1 ∧ v7 = .int .i64 x7_1 ∧ Aside0 (d13P.l0 kq l0 l1 x5_1 x6_1 x7_1 = some r) ∧ Aside0 (kq ≤ k) ∧ Aside0 (Kd.R (Kd.int .i64) 3 w' w.heap.size (fun _ => True) v5 x5_1) ∧ Aside0 (Below w.heap.size w w'))
 case atStart => exact ⟨(y251), (0), (0), (m_5), (m_5), H', ⟨Nat.le_refl _⟩, ⟨by (with_reducible repeat (first | apply Kd.R_alloc | apply Kd.R_drewN | apply Kd.R_drew)); exact HO253.out⟩, ⟨m_0⟩⟩
 case round =>
  clear H'
  obtain ⟨x5_1, x6_1, x7_1, rfl, rfl, HA, HK1, HO_5, HB⟩ := hrel
  cases gk with
  | zero => exact absurd HA.out (by simp [d13P.l0])
  | succ k1 =>
   have H := HA.out
   clear HA
   simp only [d13P.l0] at H
   by_cases c5 : x7_1 < (l0.length : Int)
   · rw [if_pos c5] at H
     have c5b0 : decide (x7_1 < (l0.length : Int)) = true := decide_eq_true c5
     clear c5
     by_cases c6 : x5_1.length < 17592186044416
     · rw [if_pos c6] at H
       have LMc6 := Aside0.mk c6
       clear c6
       obtain ⟨y257, hy_⟩ : ∃ y_ : List Int, y_ = (x5_1 ++ [x6_1]) := ⟨_, rfl⟩
       replace H : (if 0 ≤ x7_1 then (if ((rd_T34 l0 x7_1).f0) = 2 then (d13P.j1 k1 l0 l1 y257 x6_1 x7_1 0) else (d13P.j1 k1 l0 l1 y257 x6_1 x7_1 4)) else (none)) = some r := q_2
       have Ny257 := Aside0.mk hy_
       clear hy_
       by_cases c7 : 0 ≤ x7_1
       · rw [if_pos c7] at H
         have c7b0 : decide (0 ≤ x7_1) = true := decide_eq_true c7
         clear c7
         have HC8 := Aside0.mk H
         clear H
         go_upto_if 25 with (first | ((with_reducible refine gate_builtin (b := .append) (xs := #[.tmp 16, .tmp 18]) rfl ?_); at_builtin; refine Kd.R_append (Kd.int .i64) (w0 := w) w.heap.size rfl (.tmp 16) (.tmp 18) 25 3 (.int .i64 0) 8 rfl Try.underlying25 info3 rfl (by decide) (by omega) u5 x5_1 x6_1 [.int .i64 x6_1] (fun _ => True) (fun _ => False) rfl rfl ?aP (fun _ hk => hk.elim) ?aF ?aO ?aB ?aS ?aL ?_; (case aP => exact rfl); (case aB => exact (m_0)); (case aF => exact (fun _ _ => trivial)); (case aO => exact (m_33)); (case aS => exact (below_size (m_0))); (case aL => have := LMc6.out; omega); intro v258 w9 ho hb hg hat; rw [← Ny257.out] at ho; have n0_ := Aside0.mk (hb); have n1_ := Aside0.mk (ho); clear HB; clear HO_5; have HB := n0_; have HO259 := n1_; clear n0_ n1_; clear ho hb hg hat; have p260 : 0 ≤ (x7_1 : Int) := of_decide_eq_true (m_1); have q260 : x7_1 < (l0.length : Int) := of_decide_eq_true (m_1); obtain ⟨ad260, e260, hx260_0, hx260_1, hx260_2, hx260_3, hx260_4, hx260_5, hx260_6⟩ := at_T34 HR0.out x7_1 p260 q260; cases e260; replace hx260_0 := (HB.out.cell (World.block_lt_of_cell? w _ hx260_0)).trans hx260_0; replace hx260_1 := (HB.out.cell (World.block_lt_of_cell? w _ hx260_1)).trans hx260_1; replace hx260_2 := (HB.out.cell (World.block_lt_of_cell? w _ hx260_2)).trans hx260_2; replace hx260_3 := (HB.out.cell (World.block_lt_of_cell? w _ hx260_3)).trans hx260_3; replace hx260_4 := (HB.out.cell (World.block_lt_of_cell? w _ hx260_4)).trans hx260_4; replace hx260_5 := (HB.out.cell (World.block_lt_of_cell? w _ hx260_5)).trans hx260_5; replace hx260_6 := (HB.out.cell (World.block_lt_of_cell? w _ hx260_6)).trans hx260_6; replace p260 := eq_true p260; replace q260 := eq_true q260))
         (try simp only [Act.put, List.setIfInBounds_toArray, List.set_cons_zero, List.set_cons_succ])
         go_cut [8] (fun v8 wc => ∃ (kq : Nat) (x8_7 : Int), v8 = .int .i64 x8_7 ∧ Aside0 (d13P.j1 kq l0 l1 y257 x6_1 x7_1 x8_7 = some r) ∧ Aside0 (kq ≤ k1) ∧ Aside0 (Kd.R (Kd.int .i64) 3 wc w.heap.size (fun _ => True) v258 y257) ∧ Aside0 (Below w.heap.size w wc))
         case first =>
          have H := HC8.out
          clear HC8
          by_cases c10 : ((rd_T34 l0 x7_1).f0) = 2
          · rw [if_pos c10] at H
            have c10b0 : (((rd_T34 l0 x7_1).f0) == 2) = true := beq_iff_eq.mpr c10
            have c10b1 : (((rd_T34 l0 x7_1).f0) != 2) = false := bne_eq_false_iff_eq.mpr c10
            clear c10
            (first | rw [c10b0] | (simp only [i64_w, i32_w]; rw [c10b0]) | skip)
            have H' := Aside0.mk H
            clear H
            go_wp2
            go_meet
            case rel => exact ⟨_, (0), (m_5), H', ⟨m_57⟩, ⟨by (with_reducible repeat (first | apply Kd.R_alloc | apply Kd.R_drewN | apply Kd.R_drew)); exact HO259.out⟩, ⟨m_0⟩⟩
          · rw [if_neg c10] at H
            have c10b0 : (((rd_T34 l0 x7_1).f0) == 2) = false := beq_eq_false_iff_ne.mpr c10
            have c10b1 : (((rd_T34 l0 x7_1).f0) != 2) = true := bne_iff_ne.mpr c10
            (first | rw [c10b0] | (simp only [i64_w, i32_w]; rw [c10b0]) | skip)
            have H' := Aside0.mk H
            clear H
            go_wp2
            go_meet
            case rel => exact ⟨_, (4), (m_5), H', ⟨m_57⟩, ⟨by (with_reducible repeat (first | apply Kd.R_alloc | apply Kd.R_drewN | apply Kd.R_drew)); exact HO259.out⟩, ⟨m_0⟩⟩
         case rest =>
          clear HC8
          obtain ⟨kq, x8_7, rfl, HA, HJ7, HO_5, HB⟩ := hcut
          cases kq with
          | zero => exact absurd HA.out (by simp [d13P.j1])
          | succ kj7 =>
           have H := HA.out
           clear HA
           simp only [d13P.j1] at H
           by_cases c11 : 0 ≤ x7_1
           · rw [if_pos c11] at H
             have c11b0 : decide (0 ≤ x7_1) = true := decide_eq_true c11
             clear c11
             by_cases c12 : x7_1 < (l0.length : Int)
             · rw [if_pos c12] at H
               have c12b0 : decide (x7_1 < (l0.length : Int)) = true := decide_eq_true c12
               clear c12
               by_cases c13 : ((rd_T34 l0 x7_1).f0) = 5
               · rw [if_pos c13] at H
                 have c13b0 : (((rd_T34 l0 x7_1).f0) == 5) = true := beq_iff_eq.mpr c13
                 have c13b1 : (((rd_T34 l0 x7_1).f0) != 5) = false := bne_eq_false_iff_eq.mpr c13
                 clear c13
                 replace H := Option.bind_eq_some_iff.mp H
                 obtain ⟨t264, A140, H⟩ := H
                 replace H : (if x7_1 < (l1.length : Int) then (if rdOf false l1 x7_1 = true then (d13P.l0 kj7 l0 l1 y257 (wrap64 (x6_1 + 8)) (wrap64 (x7_1 + 1))) else (d13P.l0 kj7 l0 l1 y257 (wrap64 (x6_1 + (wrap64 (4 * (t264.length : Int))))) (wrap64 (x7_1 + 1)))) else (none)) = some r := H
                 have A14 := Aside0.mk A140
                 clear A140
                 by_cases c15 : x7_1 < (l1.length : Int)
                 · rw [if_pos c15] at H
                   have c15b0 : decide (x7_1 < (l1.length : Int)) = true := decide_eq_true c15
                   clear c15
                   obtain ⟨bq16, hbq16⟩ : ∃ b_ : Bool, b_ = (rdOf false l1 x7_1) := ⟨_, rfl⟩
                   replace H : (if bq16 = true then (d13P.l0 kj7 l0 l1 y257 (wrap64 (x6_1 + 8)) (wrap64 (x7_1 + 1))) else (d13P.l0 kj7 l0 l1 y257 (wrap64 (x6_1 + (wrap64 (4 * (t264.length : Int))))) (wrap64 (x7_1 + 1)))) = some r := by rw [← hbq16] at H; exact H
                   have Nbq16 := Aside0.mk hbq16
                   clear hbq16
                   by_cases c17 : bq16 = true
                   · subst c17
                     have H1 : (d13P.l0 kj7 l0 l1 y257 (wrap64 (x6_1 + 8)) (wrap64 (x7_1 + 1))) = some r := by rw [if_pos rfl] at H; exact H
                     clear H
                     have H := H1
                     clear H1
                     have H' := Aside0.mk H
                     clear H
                     have p261 : 0 ≤ (x7_1 : Int) := of_decide_eq_true (m_1)
                     have q261 : x7_1 < (l0.length : Int) := of_decide_eq_true (m_1)
                     obtain ⟨ad261, e261, hx261_0, hx261_1, hx261_2, hx261_3, hx261_4, hx261_5, hx261_6⟩ := at_T34 HR0.out x7_1 p261 q261
                     obtain rfl : ad260 = ad261 := (by injection e261)
                     obtain ⟨hx261_0, hx261_1, hx261_2, hx261_3, hx261_4, hx261_5, hx261_6⟩ := mv7 HB.out hx261_0 hx261_1 hx261_2 hx261_3 hx261_4 hx261_5 hx261_6
                     replace p261 := eq_true p261
                     replace q261 := eq_true q261
                     try go_wp2
                     have n0_ := Aside0.mk (Kd.R_drew HO_5.out)
                     have n1_ := Aside0.mk (below_drew1 HB.out)
                     clear HO_5
                     clear HB
                     have HO_5 := n0_
                     have HB := n1_
                     clear n0_ n1_
                     have p262 : 0 ≤ (x7_1 : Int) := of_decide_eq_true (m_1)
                     have q262 : x7_1 < (l0.length : Int) := of_decide_eq_true (m_1)
                     obtain ⟨ad262, e262, hx262_0, hx262_1, hx262_2, hx262_3, hx262_4, hx262_5, hx262_6⟩ := at_T34 HR0.out x7_1 p262 q262
                     have hw262_6 := hx262_6
                     have hw262_5 := hx262_5
                     have hw262_4 := hx262_4
                     have hw262_3 := hx262_3
                     have hw262_2 := hx262_2
                     have hw262_1 := hx262_1
                     have hw262_0 := hx262_0
                     obtain rfl : ad260 = ad262 := (by injection e262)
                     obtain ⟨hx262_0, hx262_1, hx262_2, hx262_3, hx262_4, hx262_5, hx262_6⟩ := mv7 HB.out hx262_0 hx262_1 hx262_2 hx262_3 hx262_4 hx262_5 hx262_6
                     replace p262 := eq_true p262
                     replace q262 := eq_true q262
                     have p263 : 0 ≤ (x7_1 : Int) := of_decide_eq_true (m_1)
                     have q263 : x7_1 < (l0.length : Int) := of_decide_eq_true (m_1)
                     obtain ⟨ad263, e263, hx263_0, hx263_1, hx263_2, hx263_3, hx263_4, hx263_5, hx263_6⟩ := at_T34 HR0.out x7_1 p263 q263
                     have hw263_6 := hx263_6
                     have hw263_5 := hx263_5
                     have hw263_4 := hx263_4
                     have hw263_3 := hx263_3
                     have hw263_2 := hx263_2
                     have hw263_1 := hx263_1
                     have hw263_0 := hx263_0
                     obtain rfl : ad260 = ad263 := (by injection e263)
                     obtain ⟨hx263_0, hx263_1, hx263_2, hx263_3, hx263_4, hx263_5, hx263_6⟩ := mv7 HB.out hx263_0 hx263_1 hx263_2 hx263_3 hx263_4 hx263_5 hx263_6
                     replace p263 := eq_true p263
                     replace q263 := eq_true q263
                     refine start_ (n := 16) (S := fun w' => w'.cell? (ad260.add ((x7_1).toNat * 7)) = some (.int .i64 ((rd_T34 l0 x7_1).f0)) ∧ w'.cell? ⟨(ad260.add ((x7_1).toNat * 7)).block, (ad260.add ((x7_1).toNat * 7)).off + 1, none⟩ = some (.int .i64 ((rd_T34 l0 x7_1).f1.f0)) ∧ w'.cell? ⟨(ad260.add ((x7_1).toNat * 7)).block, (ad260.add ((x7_1).toNat * 7)).off + 2, none⟩ = some (.int .i64 ((rd_T34 l0 x7_1).f1.f1)) ∧ w'.cell? ⟨(ad260.add ((x7_1).toNat * 7)).block, (ad260.add ((x7_1).toNat * 7)).off + 3, none⟩ = some (.int .i64 ((rd_T34 l0 x7_1).f1.f2)) ∧ w'.cell? ⟨(ad260.add ((x7_1).toNat * 7)).block, (ad260.add ((x7_1).toNat * 7)).off + 4, none⟩ = some (.int .i64 ((rd_T34 l0 x7_1).f1.f3)) ∧ w'.cell? ⟨(ad260.add ((x7_1).toNat * 7)).block, (ad260.add ((x7_1).toNat * 7)).off + 5, none⟩ = some (.int .i32 ((rd_T34 l0 x7_1).f1.f4)) ∧ w'.cell? ⟨(ad260.add ((x7_1).toNat * 7)).block, (ad260.add ((x7_1).toNat * 7)).off + 6, none⟩ = some (.int .i64 ((rd_T34 l0 x7_1).f2)) ∧ w'.cell? (ad260.add ((x7_1).toNat * 7)) = some (.int .i64 ((rd_T34 l0 x7_1).f0)) ∧ w'.cell? ⟨(ad260.add ((x7_1).toNat * 7)).block, (ad260.add ((x7_1).toNat * 7)).off + 1, none⟩ = some (.int .i64 ((rd_T34 l0 x7_1).f1.f0)) ∧ w'.cell? ⟨(ad260.add ((x7_1).toNat * 7)).block, (ad260.add ((x7_1).toNat * 7)).off + 2, none⟩ = some (.int .i64 ((rd_T34 l0 x7_1).f1.f1)) ∧ w'.cell? ⟨(ad260.add ((x7_1).toNat * 7)).block, (ad260.add ((x7_1).toNat * 7)).off + 3, none⟩ = some (.int .i64 ((rd_T34 l0 x7_1).f1.f2)) ∧ w'.cell? ⟨(ad260.add ((x7_1).toNat * 7)).block, (ad260.add ((x7_1).toNat * 7)).off + 4, none⟩ = some (.int .i64 ((rd_T34 l0 x7_1).f1.f3)) ∧ w'.cell? ⟨(ad260.add ((x7_1).toNat * 7)).block, (ad260.add ((x7_1).toNat * 7)).off + 5, none⟩ = some (.int .i32 ((rd_T34 l0 x7_1).f1.f4)) ∧ w'.cell? ⟨(ad260.add ((x7_1).toNat * 7)).block, (ad260.add ((x7_1).toNat * 7)).off + 6, none⟩ = some (.int .i64 ((rd_T34 l0 x7_1).f2))) (ds := []) #[false, false, false, false, false, false, false, false, false, false, false, false, false, false, false, false] (by kernel_rfl) rfl rfl ⟨((HB.out.cell (World.block_lt_of_cell? w _ hw262_0)).trans hw262_0), ((HB.out.cell (World.block_lt_of_cell? w _ hw262_1)).trans hw262_1), ((HB.out.cell (World.block_lt_of_cell? w _ hw262_2)).trans hw262_2), ((HB.out.cell (World.block_lt_of_cell? w _ hw262_3)).trans hw262_3), ((HB.out.cell (World.block_lt_of_cell? w _ hw262_4)).trans hw262_4), ((HB.out.cell (World.block_lt_of_cell? w _ hw262_5)).trans hw262_5), ((HB.out.cell (World.block_lt_of_cell? w _ hw262_6)).trans hw262_6), ((HB.out.cell (World.block_lt_of_cell? w _ hw263_0)).trans hw263_0), ((HB.out.cell (World.block_lt_of_cell? w _ hw263_1)).trans hw263_1), ((HB.out.cell (World.block_lt_of_cell? w _ hw263_2)).trans hw263_2), ((HB.out.cell (World.block_lt_of_cell? w _ hw263_3)).trans hw263_3), ((HB.out.cell (World.block_lt_of_cell? w _ hw263_4)).trans hw263_4), ((HB.out.cell (World.block_lt_of_cell? w _ hw263_5)).trans hw263_5), ((HB.out.cell (World.block_lt_of_cell? w _ hw263_6)).trans hw263_6)⟩ (fun hHeld => ?_); refine with_tabW d13P.tab10 d13P.bits10 (fun HT_ HW_ => ?_)
                     generalize wc.drew = w18 at HO_5 HB hx262_0 hx262_1 hx262_2 hx262_3 hx262_4 hx262_5 hx262_6 hx263_0 hx263_1 hx263_2 hx263_3 hx263_4 hx263_5 hx263_6 hHeld ⊢
                     refine pure_ (i := 0) (N := some 32) (v := ?_) (a' := ?_) #[true, false, false, false, false, false, false, false, false, false, false, false, false, false, false, false] rfl rfl (any_of HT_.out (by kernel_rfl)) (fun _ _ _ h => h) (Or.inl ⟨by rfl, ?_⟩) ?_ ?_
                     rotate_left
                     · intro w'
                       go_simp
                       with_reducible rfl
                     rotate_left
                     · simp only [Act.put, List.setIfInBounds_toArray, List.set_cons_zero, List.set_cons_succ, i64_w, i32_w]
                       rfl
                     refine pure_ (i := 1) (N := some 33) (v := ?_) (a' := ?_) #[true, true, false, false, false, false, false, false, false, false, false, false, false, false, false, false] rfl rfl (any_of HT_.out (by kernel_rfl)) (fun _ _ _ h => h) (Or.inl ⟨by rfl, ?_⟩) ?_ ?_
                     rotate_left
                     · intro w'
                       go_simp
                       with_reducible rfl
                     rotate_left
                     · simp only [Act.put, List.setIfInBounds_toArray, List.set_cons_zero, List.set_cons_succ, i64_w, i32_w]
                       rfl
                     refine pure_ (i := 2) (N := some 34) (v := ?_) (a' := ?_) #[true, true, true, false, false, false, false, false, false, false, false, false, false, false, false, false] rfl rfl (any_of HT_.out (by kernel_rfl)) (fun _ _ _ h => h) (Or.inl ⟨by rfl, ?_⟩) ?_ ?_
                     rotate_left
                     · intro w'
                       go_simp
                       with_reducible rfl
                     rotate_left
                     · simp only [Act.put, List.setIfInBounds_toArray, List.set_cons_zero, List.set_cons_succ, i64_w, i32_w]
                       rfl
                     refine pure_ (i := 3) (N := some 35) (v := ?_) (a' := ?_) #[true, true, true, true, false, false, false, false, false, false, false, false, false, false, false, false] rfl rfl (any_of HT_.out (by kernel_rfl)) (fun _ _ _ h => h) (Or.inl ⟨by rfl, ?_⟩) ?_ ?_
                     rotate_left
                     · intro w'
                       go_simp
                       with_reducible rfl
                     rotate_left
                     · simp only [Act.put, List.setIfInBounds_toArray, List.set_cons_zero, List.set_cons_succ, i64_w, i32_w]
                       rfl
                     refine pure_ (i := 4) (N := some 36) (v := ?_) (a' := ?_) #[true, true, true, true, true, false, false, false, false, false, false, false, false, false, false, false] rfl rfl (any_of HT_.out (by kernel_rfl)) (fun _ _ _ h => h) (Or.inl ⟨by rfl, ?_⟩) ?_ ?_
                     rotate_left
                     · intro w'
                       go_simp
                       with_reducible rfl
                     rotate_left
                     · simp only [Act.put, List.setIfInBounds_toArray, List.set_cons_zero, List.set_cons_succ, i64_w, i32_w]
                       rfl
                     refine pure_ (i := 6) (N := some 38) (v := ?_) (a' := ?_) #[true, true, true, true, true, false, true, false, false, false, false, false, false, false, false, false] rfl rfl (any_of HT_.out (by kernel_rfl)) (fun _ _ _ h => h) (Or.inl ⟨by rfl, ?_⟩) ?_ ?_
                     rotate_left
                     · intro w'
                       go_simp
                       with_reducible rfl
                     rotate_left
                     · simp only [Act.put, List.setIfInBounds_toArray, List.set_cons_zero, List.set_cons_succ, i64_w, i32_w]
                       rfl
                     refine pure_ (i := 7) (N := some 39) (v := ?_) (a' := ?_) #[true, true, true, true, true, false, true, true, false, false, false, false, false, false, false, false] rfl rfl (any_of HT_.out (by kernel_rfl)) (fun _ _ _ h => h) (Or.inl ⟨by rfl, ?_⟩) ?_ ?_
                     rotate_left
                     · intro w'
                       go_simp
                       with_reducible rfl
                     rotate_left
                     · simp only [Act.put, List.setIfInBounds_toArray, List.set_cons_zero, List.set_cons_succ, i64_w, i32_w]
                       rfl
                     refine pure_ (i := 8) (N := some 40) (v := ?_) (a' := ?_) #[true, true, true, true, true, false, true, true, true, false, false, false, false, false, false, false] rfl rfl (any_of HT_.out (by kernel_rfl)) (fun _ _ _ h => h) (Or.inl ⟨by rfl, ?_⟩) ?_ ?_
                     rotate_left
                     · intro w'
                       go_simp
                       with_reducible rfl
                     rotate_left
                     · simp only [Act.put, List.setIfInBounds_toArray, List.set_cons_zero, List.set_cons_succ, i64_w, i32_w]
                       rfl
                     refine pure_ (i := 9) (N := some 41) (v := ?_) (a' := ?_) #[true, true, true, true, true, false, true, true, true, true, false, false, false, false, false, false] rfl rfl (any_of HT_.out (by kernel_rfl)) (fun _ _ _ h => h) (Or.inl ⟨by rfl, ?_⟩) ?_ ?_
                     rotate_left
                     · intro w'
                       go_simp
                       with_reducible rfl
                     rotate_left
                     · simp only [Act.put, List.setIfInBounds_toArray, List.set_cons_zero, List.set_cons_succ, i64_w, i32_w]
                       rfl
                     refine pure_ (i := 10) (N := some 42) (v := ?_) (a' := ?_) #[true, true, true, true, true, false, true, true, true, true, true, false, false, false, false, false] rfl rfl (any_of HT_.out (by kernel_rfl)) (fun _ _ _ h => h) (Or.inl ⟨by rfl, ?_⟩) ?_ ?_
                     rotate_left
                     · intro w'
                       go_simp
                       with_reducible rfl
                     rotate_left
                     · simp only [Act.put, List.setIfInBounds_toArray, List.set_cons_zero, List.set_cons_succ, i64_w, i32_w]
                       rfl
                     refine take_ (i := 5) (N := some 37) (v := ?_) (a' := ?_) #[true, true, true, true, true, true, true, true, true, true, true, false, false, false, false, false] rfl rfl (take_ofW HT_.out HW_.out (by kernel_rfl)) (fun _ _ _ h => h) (Or.inl ⟨by rfl, ?_⟩) hHeld ?_ ?_
                     rotate_left
                     · rintro w' ⟨s0, s1, s2, s3, s4, s5, s6, s7, s8, s9, s10, s11, s12, s13⟩
                       go_simp
                       with_reducible rfl
                     rotate_left
                     · simp only [Act.put, List.setIfInBounds_toArray, List.set_cons_zero, List.set_cons_succ, i64_w, i32_w]
                       rfl
                     refine take_ (i := 11) (N := some 43) (v := ?_) (a' := ?_) #[true, true, true, true, true, true, true, true, true, true, true, true, false, false, false, false] rfl rfl (take_ofW HT_.out HW_.out (by kernel_rfl)) (fun _ _ _ h => h) (Or.inl ⟨by rfl, ?_⟩) hHeld ?_ ?_
                     rotate_left
                     · rintro w' ⟨s0, s1, s2, s3, s4, s5, s6, s7, s8, s9, s10, s11, s12, s13⟩
                       go_simp
                       with_reducible rfl
                     rotate_left
                     · simp only [Act.put, List.setIfInBounds_toArray, List.set_cons_zero, List.set_cons_succ, i64_w, i32_w]
                       rfl
                     refine one_ (i := 12) (N := some 44) #[true, true, true, true, true, true, true, true, true, true, true, true, true, false, false, false] rfl rfl (one_of HT_.out (by kernel_rfl)) (by decide) (fun K hK => ?_)
                     refine goes_ Try.func23 (by kernel_rfl) rfl #[.int .i64 ((rd_T34 l0 x7_1).f1.f1), .int .i32 ((rd_T34 l0 x7_1).f1.f4)] (by rfl) rfl rfl (m_8) ?_
                     with_reducible refine (d12S.calls kj7 ((rd_T34 l0 x7_1).f1.f1) ((rd_T34 l0 x7_1).f1.f4) t264 _ A14.out).mono ?_
                     rintro e w19 ⟨v265, rfl, ho0, hb⟩
                     refine ⟨_, rfl, ?_⟩
                     have n0_ := Aside0.mk (Kd.R_below (m_33) hb)
                     have n1_ := Aside0.mk (Kd.R_lower ho0 (below_size (m_0)))
                     have n2_ := Aside0.mk (below_step (m_0) hb)
                     clear HO_5
                     clear HB
                     have HO_5 := n0_
                     have HO266 := n1_
                     have HB := n2_
                     clear n0_ n1_ n2_
                     (try clear hb)
                     (try clear hb2)
                     (try clear hk)
                     (try clear hi)
                     (try clear ho0)
                     obtain ⟨Ao20, co20, eo20⟩ := Kd.R_slice HO266.out
                     (first | subst eo20 | (injection eo20 with f1_ f2_ f3_; have f4_ := f1_.symm; have f5_ := f3_.symm; clear f1_ f2_ f3_; subst f4_; subst f5_))
                     refine hK.out _ _ ⟨((HB.out.cell (World.block_lt_of_cell? w _ hw262_0)).trans hw262_0), ((HB.out.cell (World.block_lt_of_cell? w _ hw262_1)).trans hw262_1), ((HB.out.cell (World.block_lt_of_cell? w _ hw262_2)).trans hw262_2), ((HB.out.cell (World.block_lt_of_cell? w _ hw262_3)).trans hw262_3), ((HB.out.cell (World.block_lt_of_cell? w _ hw262_4)).trans hw262_4), ((HB.out.cell (World.block_lt_of_cell? w _ hw262_5)).trans hw262_5), ((HB.out.cell (World.block_lt_of_cell? w _ hw262_6)).trans hw262_6), ((HB.out.cell (World.block_lt_of_cell? w _ hw263_0)).trans hw263_0), ((HB.out.cell (World.block_lt_of_cell? w _ hw263_1)).trans hw263_1), ((HB.out.cell (World.block_lt_of_cell? w _ hw263_2)).trans hw263_2), ((HB.out.cell (World.block_lt_of_cell? w _ hw263_3)).trans hw263_3), ((HB.out.cell (World.block_lt_of_cell? w _ hw263_4)).trans hw263_4), ((HB.out.cell (World.block_lt_of_cell? w _ hw263_5)).trans hw263_5), ((HB.out.cell (World.block_lt_of_cell? w _ hw263_6)).trans hw263_6)⟩ (fun hHeld => ?_)
                     clear hK K
                     refine norm_ (a' := ?_) ?_ ?_
                     rotate_left
                     · show Act.put _ (some 44) _ = _
                       simp only [Act.put, List.setIfInBounds_toArray, List.set_cons_zero, List.set_cons_succ, i64_w, i32_w]
                       rfl
                     refine pure_ (i := 13) (N := some 45) (v := ?_) (a' := ?_) #[true, true, true, true, true, true, true, true, true, true, true, true, true, true, false, false] rfl rfl (any_of HT_.out (by kernel_rfl)) (fun _ _ _ h => h) (Or.inl ⟨by rfl, ?_⟩) ?_ ?_
                     rotate_left
                     · intro w'
                       go_simp
                       with_reducible rfl
                     rotate_left
                     · simp only [Act.put, List.setIfInBounds_toArray, List.set_cons_zero, List.set_cons_succ, i64_w, i32_w]
                       rfl
                     refine pure_ (i := 14) (N := some 46) (v := ?_) (a' := ?_) #[true, true, true, true, true, true, true, true, true, true, true, true, true, true, true, false] rfl rfl (any_of HT_.out (by kernel_rfl)) (fun _ _ _ h => h) (Or.inl ⟨by rfl, ?_⟩) ?_ ?_
                     rotate_left
                     · intro w'
                       go_simp
                       with_reducible rfl
                     rotate_left
                     · simp only [Act.put, List.setIfInBounds_toArray, List.set_cons_zero, List.set_cons_succ, i64_w, i32_w]
                       rfl
                     refine pure_ (i := 15) (N := some 8) (v := ?_) (a' := ?_) #[true, true, true, true, true, true, true, true, true, true, true, true, true, true, true, true] rfl rfl (any_of HT_.out (by kernel_rfl)) (fun _ _ _ h => h) (Or.inl ⟨by rfl, ?_⟩) ?_ ?_
                     rotate_left
                     · intro w'
                       go_simp
                       with_reducible rfl
                     rotate_left
                     · simp only [Act.put, List.setIfInBounds_toArray, List.set_cons_zero, List.set_cons_succ, i64_w, i32_w]
                       rfl
                     refine done_ (done_of HT_.out (by kernel_rfl)) ?_
                     have p267 : 0 ≤ (x7_1 : Int) := of_decide_eq_true (m_1)
                     have q267 : x7_1 < (l1.length : Int) := of_decide_eq_true (m_1)
                     obtain ⟨ad267, e267, hx267_0⟩ := Kd.at_bool HR1.out x7_1 p267 q267
                     (try rw [← Nbq16.out] at hx267_0)
                     cases e267
                     replace hx267_0 := (HB.out.cell (World.block_lt_of_cell? w _ hx267_0)).trans hx267_0
                     replace p267 := eq_true p267
                     replace q267 := eq_true q267
                     try go_wp2
                     go_roundg kj7
                     case measure => have := HK1.out; have := HJ7.out; omega
                     case rel => exact ⟨(y257), (wrap64 (x6_1 + 8)), (wrap64 (x7_1 + 1)), (m_5), (m_5), H', ⟨by have := HK1.out; have := HJ7.out; omega⟩, ⟨m_33⟩, ⟨m_0⟩⟩
                   · replace c17 := Bool.eq_false_iff.mpr c17
                     subst c17
                     have H1 : (d13P.l0 kj7 l0 l1 y257 (wrap64 (x6_1 + (wrap64 (4 * (t264.length : Int))))) (wrap64 (x7_1 + 1))) = some r := by rw [if_neg (show ¬ (false = true) by decide)] at H; exact H
                     clear H
                     have H := H1
                     clear H1
                     have H' := Aside0.mk H
                     clear H
                     have p261 : 0 ≤ (x7_1 : Int) := of_decide_eq_true (m_1)
                     have q261 : x7_1 < (l0.length : Int) := of_decide_eq_true (m_1)
                     obtain ⟨ad261, e261, hx261_0, hx261_1, hx261_2, hx261_3, hx261_4, hx261_5, hx261_6⟩ := at_T34 HR0.out x7_1 p261 q261
                     obtain rfl : ad260 = ad261 := (by injection e261)
                     obtain ⟨hx261_0, hx261_1, hx261_2, hx261_3, hx261_4, hx261_5, hx261_6⟩ := mv7 HB.out hx261_0 hx261_1 hx261_2 hx261_3 hx261_4 hx261_5 hx261_6
                     replace p261 := eq_true p261
                     replace q261 := eq_true q261
                     try go_wp2
                     have n0_ := Aside0.mk (Kd.R_drew HO_5.out)
                     have n1_ := Aside0.mk (below_drew1 HB.out)
                     clear HO_5
                     clear HB
                     have HO_5 := n0_
                     have HB := n1_
                     clear n0_ n1_
                     have p262 : 0 ≤ (x7_1 : Int) := of_decide_eq_true (m_1)
                     have q262 : x7_1 < (l0.length : Int) := of_decide_eq_true (m_1)
                     obtain ⟨ad262, e262, hx262_0, hx262_1, hx262_2, hx262_3, hx262_4, hx262_5, hx262_6⟩ := at_T34 HR0.out x7_1 p262 q262
                     have hw262_6 := hx262_6
                     have hw262_5 := hx262_5
                     have hw262_4 := hx262_4
                     have hw262_3 := hx262_3
                     have hw262_2 := hx262_2
                     have hw262_1 := hx262_1
                     have hw262_0 := hx262_0
                     obtain rfl : ad260 = ad262 := (by injection e262)
                     obtain ⟨hx262_0, hx262_1, hx262_2, hx262_3, hx262_4, hx262_5, hx262_6⟩ := mv7 HB.out hx262_0 hx262_1 hx262_2 hx262_3 hx262_4 hx262_5 hx262_6
                     replace p262 := eq_true p262
                     replace q262 := eq_true q262
                     have p263 : 0 ≤ (x7_1 : Int) := of_decide_eq_true (m_1)
                     have q263 : x7_1 < (l0.length : Int) := of_decide_eq_true (m_1)
                     obtain ⟨ad263, e263, hx263_0, hx263_1, hx263_2, hx263_3, hx263_4, hx263_5, hx263_6⟩ := at_T34 HR0.out x7_1 p263 q263
                     have hw263_6 := hx263_6
                     have hw263_5 := hx263_5
                     have hw263_4 := hx263_4
                     have hw263_3 := hx263_3
                     have hw263_2 := hx263_2
                     have hw263_1 := hx263_1
                     have hw263_0 := hx263_0
                     obtain rfl : ad260 = ad263 := (by injection e263)
                     obtain ⟨hx263_0, hx263_1, hx263_2, hx263_3, hx263_4, hx263_5, hx263_6⟩ := mv7 HB.out hx263_0 hx263_1 hx263_2 hx263_3 hx263_4 hx263_5 hx263_6
                     replace p263 := eq_true p263
                     replace q263 := eq_true q263
                     refine start_ (n := 16) (S := fun w' => w'.cell? (ad260.add ((x7_1).toNat * 7)) = some (.int .i64 ((rd_T34 l0 x7_1).f0)) ∧ w'.cell? ⟨(ad260.add ((x7_1).toNat * 7)).block, (ad260.add ((x7_1).toNat * 7)).off + 1, none⟩ = some (.int .i64 ((rd_T34 l0 x7_1).f1.f0)) ∧ w'.cell? ⟨(ad260.add ((x7_1).toNat * 7)).block, (ad260.add ((x7_1).toNat * 7)).off + 2, none⟩ = some (.int .i64 ((rd_T34 l0 x7_1).f1.f1)) ∧ w'.cell? ⟨(ad260.add ((x7_1).toNat * 7)).block, (ad260.add ((x7_1).toNat * 7)).off + 3, none⟩ = some (.int .i64 ((rd_T34 l0 x7_1).f1.f2)) ∧ w'.cell? ⟨(ad260.add ((x7_1).toNat * 7)).block, (ad260.add ((x7_1).toNat * 7)).off + 4, none⟩ = some (.int .i64 ((rd_T34 l0 x7_1).f1.f3)) ∧ w'.cell? ⟨(ad260.add ((x7_1).toNat * 7)).block, (ad260.add ((x7_1).toNat * 7)).off + 5, none⟩ = some (.int .i32 ((rd_T34 l0 x7_1).f1.f4)) ∧ w'.cell? ⟨(ad260.add ((x7_1).toNat * 7)).block, (ad260.add ((x7_1).toNat * 7)).off + 6, none⟩ = some (.int .i64 ((rd_T34 l0 x7_1).f2)) ∧ w'.cell? (ad260.add ((x7_1).toNat * 7)) = some (.int .i64 ((rd_T34 l0 x7_1).f0)) ∧ w'.cell? ⟨(ad260.add ((x7_1).toNat * 7)).block, (ad260.add ((x7_1).toNat * 7)).off + 1, none⟩ = some (.int .i64 ((rd_T34 l0 x7_1).f1.f0)) ∧ w'.cell? ⟨(ad260.add ((x7_1).toNat * 7)).block, (ad260.add ((x7_1).toNat * 7)).off + 2, none⟩ = some (.int .i64 ((rd_T34 l0 x7_1).f1.f1)) ∧ w'.cell? ⟨(ad260.add ((x7_1).toNat * 7)).block, (ad260.add ((x7_1).toNat * 7)).off + 3, none⟩ = some (.int .i64 ((rd_T34 l0 x7_1).f1.f2)) ∧ w'.cell? ⟨(ad260.add ((x7_1).toNat * 7)).block, (ad260.add ((x7_1).toNat * 7)).off + 4, none⟩ = some (.int .i64 ((rd_T34 l0 x7_1).f1.f3)) ∧ w'.cell? ⟨(ad260.add ((x7_1).toNat * 7)).block, (ad260.add ((x7_1).toNat * 7)).off + 5, none⟩ = some (.int .i32 ((rd_T34 l0 x7_1).f1.f4)) ∧ w'.cell? ⟨(ad260.add ((x7_1).toNat * 7)).block, (ad260.add ((x7_1).toNat * 7)).off + 6, none⟩ = some (.int .i64 ((rd_T34 l0 x7_1).f2))) (ds := []) #[false, false, false, false, false, false, false, false, false, false, false, false, false, false, false, false] (by kernel_rfl) rfl rfl ⟨((HB.out.cell (World.block_lt_of_cell? w _ hw262_0)).trans hw262_0), ((HB.out.cell (World.block_lt_of_cell? w _ hw262_1)).trans hw262_1), ((HB.out.cell (World.block_lt_of_cell? w _ hw262_2)).trans hw262_2), ((HB.out.cell (World.block_lt_of_cell? w _ hw262_3)).trans hw262_3), ((HB.out.cell (World.block_lt_of_cell? w _ hw262_4)).trans hw262_4), ((HB.out.cell (World.block_lt_of_cell? w _ hw262_5)).trans hw262_5), ((HB.out.cell (World.block_lt_of_cell? w _ hw262_6)).trans hw262_6), ((HB.out.cell (World.block_lt_of_cell? w _ hw263_0)).trans hw263_0), ((HB.out.cell (World.block_lt_of_cell? w _ hw263_1)).trans hw263_1), ((HB.out.cell (World.block_lt_of_cell? w _ hw263_2)).trans hw263_2), ((HB.out.cell (World.block_lt_of_cell? w _ hw263_3)).trans hw263_3), ((HB.out.cell (World.block_lt_of_cell? w _ hw263_4)).trans hw263_4), ((HB.out.cell (World.block_lt_of_cell? w _ hw263_5)).trans hw263_5), ((HB.out.cell (World.block_lt_of_cell? w _ hw263_6)).trans hw263_6)⟩ (fun hHeld => ?_); refine with_tabW d13P.tab10 d13P.bits10 (fun HT_ HW_ => ?_)
                     generalize wc.drew = w21 at HO_5 HB hx262_0 hx262_1 hx262_2 hx262_3 hx262_4 hx262_5 hx262_6 hx263_0 hx263_1 hx263_2 hx263_3 hx263_4 hx263_5 hx263_6 hHeld ⊢
                     refine pure_ (i := 0) (N := some 32) (v := ?_) (a' := ?_) #[true, false, false, false, false, false, false, false, false, false, false, false, false, false, false, false] rfl rfl (any_of HT_.out (by kernel_rfl)) (fun _ _ _ h => h) (Or.inl ⟨by rfl, ?_⟩) ?_ ?_
                     rotate_left
                     · intro w'
                       go_simp
                       with_reducible rfl
                     rotate_left
                     · simp only [Act.put, List.setIfInBounds_toArray, List.set_cons_zero, List.set_cons_succ, i64_w, i32_w]
                       rfl
                     refine pure_ (i := 1) (N := some 33) (v := ?_) (a' := ?_) #[true, true, false, false, false, false, false, false, false, false, false, false, false, false, false, false] rfl rfl (any_of HT_.out (by kernel_rfl)) (fun _ _ _ h => h) (Or.inl ⟨by rfl, ?_⟩) ?_ ?_
                     rotate_left
                     · intro w'
                       go_simp
                       with_reducible rfl
                     rotate_left
                     · simp only [Act.put, List.setIfInBounds_toArray, List.set_cons_zero, List.set_cons_succ, i64_w, i32_w]
                       rfl
                     refine pure_ (i := 2) (N := some 34) (v := ?_) (a' := ?_) #[true, true, true, false, false, false, false, false, false, false, false, false, false, false, false, false] rfl rfl (any_of HT_.out (by kernel_rfl)) (fun _ _ _ h => h) (Or.inl ⟨by rfl, ?_⟩) ?_ ?_
                     rotate_left
                     · intro w'
                       go_simp
                       with_reducible rfl
                     rotate_left
                     · simp only [Act.put, List.setIfInBounds_toArray, List.set_cons_zero, List.set_cons_succ, i64_w, i32_w]
                       rfl
                     refine pure_ (i := 3) (N := some 35) (v := ?_) (a' := ?_) #[true, true, true, true, false, false, false, false, false, false, false, false, false, false, false, false] rfl rfl (any_of HT_.out (by kernel_rfl)) (fun _ _ _ h => h) (Or.inl ⟨by rfl, ?_⟩) ?_ ?_
                     rotate_left
                     · intro w'
                       go_simp
                       with_reducible rfl
                     rotate_left
                     · simp only [Act.put, List.setIfInBounds_toArray, List.set_cons_zero, List.set_cons_succ, i64_w, i32_w]
                       rfl
                     refine pure_ (i := 4) (N := some 36) (v := ?_) (a' := ?_) #[true, true, true, true, true, false, false, false, false, false, false, false, false, false, false, false] rfl rfl (any_of HT_.out (by kernel_rfl)) (fun _ _ _ h => h) (Or.inl ⟨by rfl, ?_⟩) ?_ ?_
                     rotate_left
                     · intro w'
                       go_simp
                       with_reducible rfl
                     rotate_left
                     · simp only [Act.put, List.setIfInBounds_toArray, List.set_cons_zero, List.set_cons_succ, i64_w, i32_w]
                       rfl
                     refine pure_ (i := 6) (N := some 38) (v := ?_) (a' := ?_) #[true, true, true, true, true, false, true, false, false, false, false, false, false, false, false, false] rfl rfl (any_of HT_.out (by kernel_rfl)) (fun _ _ _ h => h) (Or.inl ⟨by rfl, ?_⟩) ?_ ?_
                     rotate_left
                     · intro w'
                       go_simp
                       with_reducible rfl
                     rotate_left
                     · simp only [Act.put, List.setIfInBounds_toArray, List.set_cons_zero, List.set_cons_succ, i64_w, i32_w]
                       rfl
                     refine pure_ (i := 7) (N := some 39) (v := ?_) (a' := ?_) #[true, true, true, true, true, false, true, true, false, false, false, false, false, false, false, false] rfl rfl (any_of HT_.out (by kernel_rfl)) (fun _ _ _ h => h) (Or.inl ⟨by rfl, ?_⟩) ?_ ?_
                     rotate_left
                     · intro w'
                       go_simp
                       with_reducible rfl
                     rotate_left
                     · simp only [Act.put, List.setIfInBounds_toArray, List.set_cons_zero, List.set_cons_succ, i64_w, i32_w]
                       rfl
                     refine pure_ (i := 8) (N := some 40) (v := ?_) (a' := ?_) #[true, true, true, true, true, false, true, true, true, false, false, false, false, false, false, false] rfl rfl (any_of HT_.out (by kernel_rfl)) (fun _ _ _ h => h) (Or.inl ⟨by rfl, ?_⟩) ?_ ?_
                     rotate_left
                     · intro w'
                       go_simp
                       with_reducible rfl
                     rotate_left
                     · simp only [Act.put, List.setIfInBounds_toArray, List.set_cons_zero, List.set_cons_succ, i64_w, i32_w]
                       rfl
                     refine pure_ (i := 9) (N := some 41) (v := ?_) (a' := ?_) #[true, true, true, true, true, false, true, true, true, true, false, false, false, false, false, false] rfl rfl (any_of HT_.out (by kernel_rfl)) (fun _ _ _ h => h) (Or.inl ⟨by rfl, ?_⟩) ?_ ?_
                     rotate_left
                     · intro w'
                       go_simp
                       with_reducible rfl
                     rotate_left
                     · simp only [Act.put, List.setIfInBounds_toArray, List.set_cons_zero, List.set_cons_succ, i64_w, i32_w]
                       rfl
                     refine pure_ (i := 10) (N := some 42) (v := ?_) (a' := ?_) #[true, true, true, true, true, false, true, true, true, true, true, false, false, false, false, false] rfl rfl (any_of HT_.out (by kernel_rfl)) (fun _ _ _ h => h) (Or.inl ⟨by rfl, ?_⟩) ?_ ?_
                     rotate_left
                     · intro w'
                       go_simp
                       with_reducible rfl
                     rotate_left
                     · simp only [Act.put, List.setIfInBounds_toArray, List.set_cons_zero, List.set_cons_succ, i64_w, i32_w]
                       rfl
                     refine take_ (i := 5) (N := some 37) (v := ?_) (a' := ?_) #[true, true, true, true, true, true, true, true, true, true, true, false, false, false, false, false] rfl rfl (take_ofW HT_.out HW_.out (by kernel_rfl)) (fun _ _ _ h => h) (Or.inl ⟨by rfl, ?_⟩) hHeld ?_ ?_
                     rotate_left
                     · rintro w' ⟨s0, s1, s2, s3, s4, s5, s6, s7, s8, s9, s10, s11, s12, s13⟩
                       go_simp
                       with_reducible rfl
                     rotate_left
                     · simp only [Act.put, List.setIfInBounds_toArray, List.set_cons_zero, List.set_cons_succ, i64_w, i32_w]
                       rfl
                     refine take_ (i := 11) (N := some 43) (v := ?_) (a' := ?_) #[true, true, true, true, true, true, true, true, true, true, true, true, false, false, false, false] rfl rfl (take_ofW HT_.out HW_.out (by kernel_rfl)) (fun _ _ _ h => h) (Or.inl ⟨by rfl, ?_⟩) hHeld ?_ ?_
                     rotate_left
                     · rintro w' ⟨s0, s1, s2, s3, s4, s5, s6, s7, s8, s9, s10, s11, s12, s13⟩
                       go_simp
                       with_reducible rfl
                     rotate_left
                     · simp only [Act.put, List.setIfInBounds_toArray, List.set_cons_zero, List.set_cons_succ, i64_w, i32_w]
                       rfl
                     refine one_ (i := 12) (N := some 44) #[true, true, true, true, true, true, true, true, true, true, true, true, true, false, false, false] rfl rfl (one_of HT_.out (by kernel_rfl)) (by decide) (fun K hK => ?_)
                     refine goes_ Try.func23 (by kernel_rfl) rfl #[.int .i64 ((rd_T34 l0 x7_1).f1.f1), .int .i32 ((rd_T34 l0 x7_1).f1.f4)] (by rfl) rfl rfl (m_8) ?_
                     with_reducible refine (d12S.calls kj7 ((rd_T34 l0 x7_1).f1.f1) ((rd_T34 l0 x7_1).f1.f4) t264 _ A14.out).mono ?_
                     rintro e w22 ⟨v265, rfl, ho0, hb⟩
                     refine ⟨_, rfl, ?_⟩
                     have n0_ := Aside0.mk (Kd.R_below (m_33) hb)
                     have n1_ := Aside0.mk (Kd.R_lower ho0 (below_size (m_0)))
                     have n2_ := Aside0.mk (below_step (m_0) hb)
                     clear HO_5
                     clear HB
                     have HO_5 := n0_
                     have HO266 := n1_
                     have HB := n2_
                     clear n0_ n1_ n2_
                     (try clear hb)
                     (try clear hb2)
                     (try clear hk)
                     (try clear hi)
                     (try clear ho0)
                     obtain ⟨Ao23, co23, eo23⟩ := Kd.R_slice HO266.out
                     (first | subst eo23 | (injection eo23 with f1_ f2_ f3_; have f4_ := f1_.symm; have f5_ := f3_.symm; clear f1_ f2_ f3_; subst f4_; subst f5_))
                     refine hK.out _ _ ⟨((HB.out.cell (World.block_lt_of_cell? w _ hw262_0)).trans hw262_0), ((HB.out.cell (World.block_lt_of_cell? w _ hw262_1)).trans hw262_1), ((HB.out.cell (World.block_lt_of_cell? w _ hw262_2)).trans hw262_2), ((HB.out.cell (World.block_lt_of_cell? w _ hw262_3)).trans hw262_3), ((HB.out.cell (World.block_lt_of_cell? w _ hw262_4)).trans hw262_4), ((HB.out.cell (World.block_lt_of_cell? w _ hw262_5)).trans hw262_5), ((HB.out.cell (World.block_lt_of_cell? w _ hw262_6)).trans hw262_6), ((HB.out.cell (World.block_lt_of_cell? w _ hw263_0)).trans hw263_0), ((HB.out.cell (World.block_lt_of_cell? w _ hw263_1)).trans hw263_1), ((HB.out.cell (World.block_lt_of_cell? w _ hw263_2)).trans hw263_2), ((HB.out.cell (World.block_lt_of_cell? w _ hw263_3)).trans hw263_3), ((HB.out.cell (World.block_lt_of_cell? w _ hw263_4)).trans hw263_4), ((HB.out.cell (World.block_lt_of_cell? w _ hw263_5)).trans hw263_5), ((HB.out.cell (World.block_lt_of_cell? w _ hw263_6)).trans hw263_6)⟩ (fun hHeld => ?_)
                     clear hK K
                     refine norm_ (a' := ?_) ?_ ?_
                     rotate_left
                     · show Act.put _ (some 44) _ = _
                       simp only [Act.put, List.setIfInBounds_toArray, List.set_cons_zero, List.set_cons_succ, i64_w, i32_w]
                       rfl
                     refine pure_ (i := 13) (N := some 45) (v := ?_) (a' := ?_) #[true, true, true, true, true, true, true, true, true, true, true, true, true, true, false, false] rfl rfl (any_of HT_.out (by kernel_rfl)) (fun _ _ _ h => h) (Or.inl ⟨by rfl, ?_⟩) ?_ ?_
                     rotate_left
                     · intro w'
                       go_simp
                       with_reducible rfl
                     rotate_left
                     · simp only [Act.put, List.setIfInBounds_toArray, List.set_cons_zero, List.set_cons_succ, i64_w, i32_w]
                       rfl
                     refine pure_ (i := 14) (N := some 46) (v := ?_) (a' := ?_) #[true, true, true, true, true, true, true, true, true, true, true, true, true, true, true, false] rfl rfl (any_of HT_.out (by kernel_rfl)) (fun _ _ _ h => h) (Or.inl ⟨by rfl, ?_⟩) ?_ ?_
                     rotate_left
                     · intro w'
                       go_simp
                       with_reducible rfl
                     rotate_left
                     · simp only [Act.put, List.setIfInBounds_toArray, List.set_cons_zero, List.set_cons_succ, i64_w, i32_w]
                       rfl
                     refine pure_ (i := 15) (N := some 8) (v := ?_) (a' := ?_) #[true, true, true, true, true, true, true, true, true, true, true, true, true, true, true, true] rfl rfl (any_of HT_.out (by kernel_rfl)) (fun _ _ _ h => h) (Or.inl ⟨by rfl, ?_⟩) ?_ ?_
                     rotate_left
                     · intro w'
                       go_simp
                       with_reducible rfl
                     rotate_left
                     · simp only [Act.put, List.setIfInBounds_toArray, List.set_cons_zero, List.set_cons_succ, i64_w, i32_w]
                       rfl
                     refine done_ (done_of HT_.out (by kernel_rfl)) ?_
                     have p267 : 0 ≤ (x7_1 : Int) := of_decide_eq_true (m_1)
                     have q267 : x7_1 < (l1.length : Int) := of_decide_eq_true (m_1)
                     obtain ⟨ad267, e267, hx267_0⟩ := Kd.at_bool HR1.out x7_1 p267 q267
                     (try rw [← Nbq16.out] at hx267_0)
                     cases e267
                     replace hx267_0 := (HB.out.cell (World.block_lt_of_cell? w _ hx267_0)).trans hx267_0
                     replace p267 := eq_true p267
                     replace q267 := eq_true q267
                     try go_wp2
                     go_roundg kj7
                     case measure => have := HK1.out; have := HJ7.out; omega
                     case rel => exact ⟨(y257), (wrap64 (x6_1 + (wrap64 (4 * (t264.length : Int))))), (wrap64 (x7_1 + 1)), (m_5), (m_5), H', ⟨by have := HK1.out; have := HJ7.out; omega⟩, ⟨m_33⟩, ⟨m_0⟩⟩
                 · rw [if_neg c15] at H
                   exact absurd H (by simp)
               · rw [if_neg c13] at H
                 have c13b0 : (((rd_T34 l0 x7_1).f0) == 5) = false := beq_eq_false_iff_ne.mpr c13
                 have c13b1 : (((rd_T34 l0 x7_1).f0) != 5) = true := bne_iff_ne.mpr c13
                 by_cases c24 : x7_1 < (l1.length : Int)
                 · rw [if_pos c24] at H
                   have c24b0 : decide (x7_1 < (l1.length : Int)) = true := decide_eq_true c24
                   clear c24
                   obtain ⟨bq25, hbq25⟩ : ∃ b_ : Bool, b_ = (rdOf false l1 x7_1) := ⟨_, rfl⟩
                   replace H : (if bq25 = true then (d13P.l0 kj7 l0 l1 y257 (wrap64 (x6_1 + 8)) (wrap64 (x7_1 + 1))) else (d13P.l0 kj7 l0 l1 y257 (wrap64 (x6_1 + x8_7)) (wrap64 (x7_1 + 1)))) = some r := by rw [← hbq25] at H; exact H
                   have Nbq25 := Aside0.mk hbq25
                   clear hbq25
                   by_cases c26 : bq25 = true
                   · subst c26
                     have H1 : (d13P.l0 kj7 l0 l1 y257 (wrap64 (x6_1 + 8)) (wrap64 (x7_1 + 1))) = some r := by rw [if_pos rfl] at H; exact H
                     clear H
                     have H := H1
                     clear H1
                     have H' := Aside0.mk H
                     clear H
                     have p261 : 0 ≤ (x7_1 : Int) := of_decide_eq_true (m_1)
                     have q261 : x7_1 < (l0.length : Int) := of_decide_eq_true (m_1)
                     obtain ⟨ad261, e261, hx261_0, hx261_1, hx261_2, hx261_3, hx261_4, hx261_5, hx261_6⟩ := at_T34 HR0.out x7_1 p261 q261
                     obtain rfl : ad260 = ad261 := (by injection e261)
                     obtain ⟨hx261_0, hx261_1, hx261_2, hx261_3, hx261_4, hx261_5, hx261_6⟩ := mv7 HB.out hx261_0 hx261_1 hx261_2 hx261_3 hx261_4 hx261_5 hx261_6
                     replace p261 := eq_true p261
                     replace q261 := eq_true q261
                     have p268 : 0 ≤ (x7_1 : Int) := of_decide_eq_true (m_1)
                     have q268 : x7_1 < (l1.length : Int) := of_decide_eq_true (m_1)
                     obtain ⟨ad268, e268, hx268_0⟩ := Kd.at_bool HR1.out x7_1 p268 q268
                     (try rw [← Nbq25.out] at hx268_0)
                     cases e268
                     replace hx268_0 := (HB.out.cell (World.block_lt_of_cell? w _ hx268_0)).trans hx268_0
                     replace p268 := eq_true p268
                     replace q268 := eq_true q268
                     go_wp2
                     go_roundg kj7
                     case measure => have := HK1.out; have := HJ7.out; omega
                     case rel => exact ⟨(y257), (wrap64 (x6_1 + 8)), (wrap64 (x7_1 + 1)), (m_5), (m_5), H', ⟨by have := HK1.out; have := HJ7.out; omega⟩, ⟨m_33⟩, ⟨m_0⟩⟩
                   · replace c26 := Bool.eq_false_iff.mpr c26
                     subst c26
                     have H1 : (d13P.l0 kj7 l0 l1 y257 (wrap64 (x6_1 + x8_7)) (wrap64 (x7_1 + 1))) = some r := by rw [if_neg (show ¬ (false = true) by decide)] at H; exact H
                     clear H
                     have H := H1
                     clear H1
                     have H' := Aside0.mk H
                     clear H
                     have p261 : 0 ≤ (x7_1 : Int) := of_decide_eq_true (m_1)
                     have q261 : x7_1 < (l0.length : Int) := of_decide_eq_true (m_1)
                     obtain ⟨ad261, e261, hx261_0, hx261_1, hx261_2, hx261_3, hx261_4, hx261_5, hx261_6⟩ := at_T34 HR0.out x7_1 p261 q261
                     obtain rfl : ad260 = ad261 := (by injection e261)
                     obtain ⟨hx261_0, hx261_1, hx261_2, hx261_3, hx261_4, hx261_5, hx261_6⟩ := mv7 HB.out hx261_0 hx261_1 hx261_2 hx261_3 hx261_4 hx261_5 hx261_6
                     replace p261 := eq_true p261
                     replace q261 := eq_true q261
                     have p268 : 0 ≤ (x7_1 : Int) := of_decide_eq_true (m_1)
                     have q268 : x7_1 < (l1.length : Int) := of_decide_eq_true (m_1)
                     obtain ⟨ad268, e268, hx268_0⟩ := Kd.at_bool HR1.out x7_1 p268 q268
                     (try rw [← Nbq25.out] at hx268_0)
                     cases e268
                     replace hx268_0 := (HB.out.cell (World.block_lt_of_cell? w _ hx268_0)).trans hx268_0
                     replace p268 := eq_true p268
                     replace q268 := eq_true q268
                     go_wp2
                     go_roundg kj7
                     case measure => have := HK1.out; have := HJ7.out; omega
                     case rel => exact ⟨(y257), (wrap64 (x6_1 + x8_7)), (wrap64 (x7_1 + 1)), (m_5), (m_5), H', ⟨by have := HK1.out; have := HJ7.out; omega⟩, ⟨m_33⟩, ⟨m_0⟩⟩
                 · rw [if_neg c24] at H
                   exact absurd H (by simp)
             · rw [if_neg c12] at H
               exact absurd H (by simp)
           · rw [if_neg c11] at H
             exact absurd H (by simp)
       · rw [if_neg c7] at H
         exact absurd H (by simp)
     · rw [if_neg c6] at H
       exact absurd H (by simp)
   · rw [if_neg c5] at H
     have c5b0 : decide (x7_1 < (l0.length : Int)) = false := decide_eq_false c5
     clear c5
     by_cases c27 : x5_1.length < 17592186044416
     · rw [if_pos c27] at H
       have LMc27 := Aside0.mk c27
       clear c27
       obtain ⟨y254, hy_⟩ : ∃ y_ : List Int, y_ = (x5_1 ++ [x6_1]) := ⟨_, rfl⟩
       replace H : (some y254) = some r := q_2
       have Ny254 := Aside0.mk hy_
       clear hy_
       obtain rfl := Option.some.inj H
       go_wp2_with (first | ((with_reducible refine gate_builtin (b := .append) (xs := #[.tmp 54, .tmp 56]) rfl ?_); at_builtin; refine Kd.R_append (Kd.int .i64) (w0 := w) w.heap.size rfl (.tmp 54) (.tmp 56) 25 3 (.int .i64 0) 8 rfl Try.underlying25 info3 rfl (by decide) (by omega) u5 x5_1 x6_1 [.int .i64 x6_1] (fun _ => True) (fun _ => False) rfl rfl ?aP (fun _ hk => hk.elim) ?aF ?aO ?aB ?aS ?aL ?_; (case aP => exact rfl); (case aB => exact (m_0)); (case aF => exact (fun _ _ => trivial)); (case aO => exact (m_33)); (case aS => exact (below_size (m_0))); (case aL => have := LMc27.out; omega); intro v255 w28 ho hb hg hat; rw [← Ny254.out] at ho; have n0_ := Aside0.mk (hb); have n1_ := Aside0.mk (ho); clear HB; clear HO_5; have HB := n0_; have HO256 := n1_; clear n0_ n1_; clear ho hb hg hat))
       go_ret
       exact ⟨_, m_3, by (with_reducible repeat (first | apply Kd.R_alloc | apply Kd.R_drewN | apply Kd.R_drew)); exact HO256.out, m_0⟩
     · rw [if_neg c27] at H
       exact absurd H (by simp)
-- NOT PRINTED: function 4 (pintlelaw13_RelaxLeast)
-- NOT PRINTED: function 24 (asm_lay)
-- NOT PRINTED: function 38 (asm_laid_by)
end Go.Proofs.Ytihecimbhhlhaaa.PRs
