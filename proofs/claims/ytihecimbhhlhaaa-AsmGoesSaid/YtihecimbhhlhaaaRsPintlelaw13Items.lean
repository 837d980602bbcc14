/- l13I: a plain function with the same answers as the program's, and the proof of it, as a program has written them. -/
import Derived.Test.YtihecimbhhlhaaaRsG1
import Derived.Test.YtihecimbhhlhaaaRsMc
namespace Go.Proofs.Ytihecimbhhlhaaa.PRs
open Go.RowKit Go.Proofs.YtihecimbhhlhaaaW.PrintWords Go.Proofs.YtihecimbhhlhaaaW.PrintLast Go.Proofs.YtihecimbhhlhaaaW.PrintMore
set_option linter.unusedVariables false
set_option linter.unusedSimpArgs false
/-! ### l13I: function 7 -/
mutual
def l13I.l0 : Nat → List (S48) → List (S34) → Int → Option ((List (S34)))
 | 0, _, _, _ => none
 | k + 1, x0, x3, x4 => if x4 < (x0.length : Int) then (l13I.j1 k x0 x3 x4 (decide (x4 < 24))) else (l13I.j1 k x0 x3 x4 false)
def l13I.j1 : Nat → List (S48) → List (S34) → Int → Bool → Option ((List (S34)))
 | 0, _, _, _, _ => none
 | k + 1, x0, x3, x4, x15 => if x15 = true then (if 0 ≤ x4 then (if x4 < (x0.length : Int) then (if ((rd_T48 x0 x4).f0) < 1 then (l13I.j2 k x0 x3 x4 ((rd_T48 x0 x4).f0) true) else (l13I.j2 k x0 x3 x4 ((rd_T48 x0 x4).f0) (((rd_T48 x0 x4).f1.f0) != 1))) else (none)) else (none)) else (some x3)
def l13I.j2 : Nat → List (S48) → List (S34) → Int → Int → Bool → Option ((List (S34)))
 | 0, _, _, _, _, _ => none
 | k + 1, x0, x3, x4, x5, x33 => if x33 = true then (l13I.j3 k x0 x3 x4 1) else (l13I.j3 k x0 x3 x4 x5)
def l13I.j3 : Nat → List (S48) → List (S34) → Int → Int → Option ((List (S34)))
 | 0, _, _, _, _ => none
 | k + 1, x0, x3, x4, x5 => l13I.l1 k x0 x3 x4 x5 0
def l13I.l1 : Nat → List (S48) → List (S34) → Int → Int → Int → Option ((List (S34)))
 | 0, _, _, _, _, _ => none
 | k + 1, x0, x3, x4, x5, x6 => if x6 < x5 then (if (x3.length : Int) < 4000 then (if 0 ≤ x4 then (if x4 < (x0.length : Int) then (if x3.length < 2513169434916 then (l13I.l1 k x0 (x3 ++ [(⟨(rd_T48 x0 x4).f1.f0, (⟨(rd_T48 x0 x4).f1.f1.f0, (rd_T48 x0 x4).f1.f1.f1, (rd_T48 x0 x4).f1.f1.f2, (rd_T48 x0 x4).f1.f1.f3, (rd_T48 x0 x4).f1.f1.f4⟩ : S32), (rd_T48 x0 x4).f1.f2⟩ : S34)]) x4 x5 (wrap64 (x6 + 1))) else (none)) else (none)) else (none)) else (l13I.l0 k x0 x3 (wrap64 (x4 + 1)))) else (l13I.l0 k x0 x3 (wrap64 (x4 + 1)))
end
def l13I.f (k : Nat) (l0 : List (S48)) : Option ((List (S34))) := l13I.l0 k l0 (([] : List (S34))) 0
theorem lfxRsPintlelaw13Items0 {P : Prop} (h : P := by
 go_wp2
 go_roundg k5
 case measure => have := HK1.out; have := HJ3.out; have := HJ8.out; have := HJ10.out; have := HK5.out; omega
 case rel => exact ⟨(x3_5), (wrap64 (x4_1 + 1)), (m_5), H', ⟨by have := HK1.out; have := HJ3.out; have := HJ8.out; have := HJ10.out; have := HK5.out; omega⟩, ⟨m_37⟩, ⟨m_0⟩⟩) : P := h
set_option maxHeartbeats 8000000 in
set_option maxRecDepth 100000 in
theorem l13I.calls (k : Nat) (A0 : Option Addr) (c0 : Nat) (l0 : List (S48)) (r : List (S34)) (w : World) (hr0 : Kd.C k48 w A0 l0.length l0) (hc0 : l0.length ≤ c0) (h : l13I.f k l0 = some r) :
 Calls Try.prog 7 #[.slice A0 l0.length c0] w fun e w' => ∃ v0_ : Value, e = .returned (v0_) ∧ Kd.R k34 34 w' w.heap.size (fun _ => True) v0_ r ∧ Below w.heap.size w w' := by
 have hu34 := Try.underlying34
 have HR0 := Aside0.mk hr0
 have HC0 := Aside0.mk hc0
 clear hr0 hc0
 have HB := Aside0.mk (Below.refl w.heap.size w)
 have H : (l13I.l0 k l0 (([] : List (S34))) 0) = some r := h
 clear h
 obtain ⟨y101, hy_⟩ : ∃ y_ : List (S34), y_ = (([] : List (S34))) := ⟨_, rfl⟩
 replace H : (l13I.l0 k l0 y101 0) = some r := q_2
 have Ny101 := Aside0.mk hy_
 clear hy_
 have H' := Aside0.mk H
 clear H
 go_enter Try.func7, Try.ntmps7
 go_wp2_with (first | ((with_reducible refine gate_dst (N := 7) rfl ?_); (try (refine gate_guard (by rfl) ?_; dsimp only)); refine Kd.R_lit k34 _ 34 ?hg (N := 7) ?hd (xs := ([] : List (S34))) (inner := []) (ok := fun _ => True) (okp := fun _ => True) ?hr ?hp (fun _ hk => hk) trivial (Below.refl _ _) (Nat.le_refl _) (by simp) ?_; (case hd => rfl); (case hg => rfl); (case hr => exact m_14); (case hp => exact (Reps.none _ _)); intro v102 w2 ho3 hb hg_ hnew_; clear hg_ hnew_; (first | rw [← Ny101.out] at ho3 | (simp only [Int.reduceToNat] at ho3; rw [← Ny101.out] at ho3)); have n0_ := Aside0.mk (Kd.R_lower ho3 (below_size (m_0))); have n1_ := Aside0.mk (below_step (m_0) hb); clear HB; have HO103 := n0_; have HB := n1_; clear n0_ n1_; clear hb ho3))
 go_loopg [3, 4] k (fun kq v3 v4 w' => ∃ (x3_1 : List (S34)) (x4_1 : Int), v4 = .int .i64 x4_1 ∧ Aside0 (l13I.l0 kq l0 x3_1 x4_1 = some r) ∧ Aside0 (kq ≤ k) ∧ Aside0 (Kd.R k34 34 w' w.heap.size (fun _ => True) v3 x3_1) ∧ Aside0 (Below w.heap.size w w'))
 case atStart => exact ⟨(y101), (0), (m_5), H', ⟨Nat.le_refl _⟩, ⟨by (with_reducible repeat (first | apply Kd.R_alloc | apply Kd.R_drewN | apply Kd.R_drew)); exact HO103.out⟩, ⟨m_0⟩⟩
 case round =>
  clear H'
  obtain ⟨x3_1, x4_1, rfl, HA, HK1, HO_3, HB⟩ := hrel
  cases gk with
  | zero => exact absurd HA.out (by simp [l13I.l0])
  | succ k1 =>
   have H := HA.out
   clear HA
   simp only [l13I.l0] at H
   have HC4 := Aside0.mk H
   clear H
   go_upto_region 3 with (fail)
   go_cut [15] (fun v15 wc => ∃ (kq : Nat) (x15_3 : Bool), v15 = .bool x15_3 ∧ Aside0 (l13I.j1 kq l0 x3_1 x4_1 x15_3 = some r) ∧ Aside0 (kq ≤ k1) ∧ Aside0 (Kd.R k34 34 wc w.heap.size (fun _ => True) u3 x3_1) ∧ Aside0 (Below w.heap.size w wc))
   case first =>
    have H := HC4.out
    clear HC4
    by_cases c5 : x4_1 < (l0.length : Int)
    · rw [if_pos c5] at H
      have c5b0 : decide (x4_1 < (l0.length : Int)) = true := decide_eq_true c5
      clear c5
      (first | rw [c5b0] | (simp only [i64_w, i32_w]; rw [c5b0]) | skip)
      have H' := Aside0.mk H
      clear H
      go_wp2
      go_meet
      case rel => exact ⟨_, (decide (x4_1 < 24)), (m_5), H', ⟨m_57⟩, ⟨m_37⟩, ⟨m_0⟩⟩
    · rw [if_neg c5] at H
      have c5b0 : decide (x4_1 < (l0.length : Int)) = false := decide_eq_false c5
      clear c5
      (first | rw [c5b0] | (simp only [i64_w, i32_w]; rw [c5b0]) | skip)
      have H' := Aside0.mk H
      clear H
      go_wp2
      go_meet
      case rel => exact ⟨_, (false), (m_5), H', ⟨m_57⟩, ⟨m_37⟩, ⟨m_0⟩⟩
   case rest =>
    clear HC4
    obtain ⟨kq, x15_3, rfl, HA, HJ3, HO_3, HB⟩ := hcut
    cases kq with
    | zero => exact absurd HA.out (by simp [l13I.j1])
    | succ kj3 =>
     have H := HA.out
     clear HA
     simp only [l13I.j1] at H
     by_cases c6 : x15_3 = true
     · subst c6
       have H1 : (if 0 ≤ x4_1 then (if x4_1 < (l0.length : Int) then (if ((rd_T48 l0 x4_1).f0) < 1 then (l13I.j2 kj3 l0 x3_1 x4_1 ((rd_T48 l0 x4_1).f0) true) else (l13I.j2 kj3 l0 x3_1 x4_1 ((rd_T48 l0 x4_1).f0) (((rd_T48 l0 x4_1).f1.f0) != 1))) else (none)) else (none)) = some r := by rw [if_pos rfl] at H; exact H
       clear H
       have H := H1
       clear H1
       by_cases c7 : 0 ≤ x4_1
       · rw [if_pos c7] at H
         have c7b0 : decide (0 ≤ x4_1) = true := decide_eq_true c7
         clear c7
         by_cases c8 : x4_1 < (l0.length : Int)
         · rw [if_pos c8] at H
           have c8b0 : decide (x4_1 < (l0.length : Int)) = true := decide_eq_true c8
           clear c8
           have HC9 := Aside0.mk H
           clear H
           have p104 : 0 ≤ (x4_1 : Int) := of_decide_eq_true (m_1)
           have q104 : x4_1 < (l0.length : Int) := of_decide_eq_true (m_1)
           obtain ⟨ad104, e104, hx104_0, hx104_1, hx104_2, hx104_3, hx104_4, hx104_5, hx104_6, hx104_7⟩ := at_T48 HR0.out x4_1 p104 q104
           cases e104
           obtain ⟨hx104_0, hx104_1, hx104_2, hx104_3, hx104_4, hx104_5, hx104_6, hx104_7⟩ := mv8 HB.out hx104_0 hx104_1 hx104_2 hx104_3 hx104_4 hx104_5 hx104_6 hx104_7
           replace p104 := eq_true p104
           replace q104 := eq_true q104
           go_upto_region 6 with (fail)
           go_cut [33] (fun v33 wc => ∃ (kq : Nat) (x33_8 : Bool), v33 = .bool x33_8 ∧ Aside0 (l13I.j2 kq l0 x3_1 x4_1 ((rd_T48 l0 x4_1).f0) x33_8 = some r) ∧ Aside0 (kq ≤ kj3) ∧ Aside0 (Kd.R k34 34 wc w.heap.size (fun _ => True) u3 x3_1) ∧ Aside0 (Below w.heap.size w wc))
           case first =>
            have H := HC9.out
            clear HC9
            by_cases c10 : ((rd_T48 l0 x4_1).f0) < 1
            · rw [if_pos c10] at H
              have c10b0 : decide (((rd_T48 l0 x4_1).f0) < 1) = true := decide_eq_true c10
              clear c10
              (first | rw [c10b0] | (simp only [i64_w, i32_w]; rw [c10b0]) | skip)
              have H' := Aside0.mk H
              clear H
              go_wp2
              go_meet
              case rel => exact ⟨_, (true), (m_5), H', ⟨by have := HK1.out; have := HJ3.out; first | omega | exact Nat.le_refl _⟩, ⟨m_37⟩, ⟨m_0⟩⟩
            · rw [if_neg c10] at H
              have c10b0 : decide (((rd_T48 l0 x4_1).f0) < 1) = false := decide_eq_false c10
              clear c10
              (first | rw [c10b0] | (simp only [i64_w, i32_w]; rw [c10b0]) | skip)
              have H' := Aside0.mk H
              clear H
              have p105 : 0 ≤ (x4_1 : Int) := of_decide_eq_true (m_1)
              have q105 : x4_1 < (l0.length : Int) := of_decide_eq_true (m_1)
              obtain ⟨ad105, e105, hx105_0, hx105_1, hx105_2, hx105_3, hx105_4, hx105_5, hx105_6, hx105_7⟩ := at_T48 HR0.out x4_1 p105 q105
              obtain rfl : ad104 = ad105 := (by injection e105)
              obtain ⟨hx105_0, hx105_1, hx105_2, hx105_3, hx105_4, hx105_5, hx105_6, hx105_7⟩ := mv8 HB.out hx105_0 hx105_1 hx105_2 hx105_3 hx105_4 hx105_5 hx105_6 hx105_7
              replace p105 := eq_true p105
              replace q105 := eq_true q105
              go_wp2
              go_meet
              case rel => exact ⟨_, ((((rd_T48 l0 x4_1).f1.f0) != 1)), (m_5), H', ⟨by have := HK1.out; have := HJ3.out; first | omega | exact Nat.le_refl _⟩, ⟨m_37⟩, ⟨m_0⟩⟩
           case rest =>
            clear HC9
            obtain ⟨kq, x33_8, rfl, HA, HJ8, HO_3, HB⟩ := hcut
            cases kq with
            | zero => exact absurd HA.out (by simp [l13I.j2])
            | succ kj8 =>
             have H := HA.out
             clear HA
             simp only [l13I.j2] at H
             have HC11 := Aside0.mk H
             clear H
             go_upto_if 33 with (fail)
             go_cut [5] (fun v5 wc => ∃ (kq : Nat) (x5_10 : Int), v5 = .int .i64 x5_10 ∧ Aside0 (l13I.j3 kq l0 x3_1 x4_1 x5_10 = some r) ∧ Aside0 (kq ≤ kj8) ∧ Aside0 (Kd.R k34 34 wc w.heap.size (fun _ => True) u3 x3_1) ∧ Aside0 (Below w.heap.size w wc))
             case first =>
              have H := HC11.out
              clear HC11
              by_cases c12 : x33_8 = true
              · subst c12
                have H1 : (l13I.j3 kj8 l0 x3_1 x4_1 1) = some r := by rw [if_pos rfl] at H; exact H
                clear H
                have H := H1
                clear H1
                have H' := Aside0.mk H
                clear H
                go_wp2
                go_meet
                case rel => exact ⟨_, (1), (m_5), H', ⟨by have := HK1.out; have := HJ3.out; have := HJ8.out; first | omega | exact Nat.le_refl _⟩, ⟨m_37⟩, ⟨m_0⟩⟩
              · replace c12 := Bool.eq_false_iff.mpr c12
                subst c12
                have H1 : (l13I.j3 kj8 l0 x3_1 x4_1 ((rd_T48 l0 x4_1).f0)) = some r := by rw [if_neg (show ¬ (false = true) by decide)] at H; exact H
                clear H
                have H := H1
                clear H1
                have H' := Aside0.mk H
                clear H
                go_wp2
                go_meet
                case rel => exact ⟨_, (((rd_T48 l0 x4_1).f0)), (m_5), H', ⟨by have := HK1.out; have := HJ3.out; have := HJ8.out; first | omega | exact Nat.le_refl _⟩, ⟨m_37⟩, ⟨m_0⟩⟩
             case rest =>
              clear HC11
              obtain ⟨kq, x5_10, rfl, HA, HJ10, HO_3, HB⟩ := hcut
              cases kq with
              | zero => exact absurd HA.out (by simp [l13I.j3])
              | succ kj10 =>
               have H := HA.out
               clear HA
               simp only [l13I.j3] at H
               have H' := Aside0.mk H
               clear H
               go_wp2
               go_loopg [3, 6] kj10 (fun kq v3 v6 w' => ∃ (x3_5 : List (S34)) (x6_5 : Int), v6 = .int .i64 x6_5 ∧ Aside0 (l13I.l1 kq l0 x3_5 x4_1 x5_10 x6_5 = some r) ∧ Aside0 (kq ≤ kj10) ∧ Aside0 (Kd.R k34 34 w' w.heap.size (fun _ => True) v3 x3_5) ∧ Aside0 (Below w.heap.size w w'))
               case atStart => exact ⟨(x3_1), (0), (m_5), H', ⟨Nat.le_refl _⟩, ⟨m_37⟩, ⟨m_0⟩⟩
               case round =>
                clear H'
                obtain ⟨x3_5, x6_5, rfl, HA, HK5, HO_3, HB⟩ := hrel
                cases gk with
                | zero => exact absurd HA.out (by simp [l13I.l1])
                | succ k5 =>
                 have H := HA.out
                 clear HA
                 simp only [l13I.l1] at H
                 by_cases c13 : x6_5 < x5_10
                 · rw [if_pos c13] at H
                   have c13b0 : decide (x6_5 < x5_10) = true := decide_eq_true c13
                   clear c13
                   by_cases c14 : (x3_5.length : Int) < 4000
                   · rw [if_pos c14] at H
                     have c14b0 : decide ((x3_5.length : Int) < 4000) = true := decide_eq_true c14
                     have c14b1 : decide (x3_5.length < 4000) = true := decide_eq_true (by omega)
                     clear c14
                     by_cases c15 : 0 ≤ x4_1
                     · rw [if_pos c15] at H
                       have c15b0 : decide (0 ≤ x4_1) = true := decide_eq_true c15
                       clear c15
                       by_cases c16 : x4_1 < (l0.length : Int)
                       · rw [if_pos c16] at H
                         have c16b0 : decide (x4_1 < (l0.length : Int)) = true := decide_eq_true c16
                         clear c16
                         by_cases c17 : x3_5.length < 2513169434916
                         · rw [if_pos c17] at H
                           have LMc17 := Aside0.mk c17
                           clear c17
                           obtain ⟨y107, hy_⟩ : ∃ y_ : List (S34), y_ = (x3_5 ++ [(⟨(rd_T48 l0 x4_1).f1.f0, (⟨(rd_T48 l0 x4_1).f1.f1.f0, (rd_T48 l0 x4_1).f1.f1.f1, (rd_T48 l0 x4_1).f1.f1.f2, (rd_T48 l0 x4_1).f1.f1.f3, (rd_T48 l0 x4_1).f1.f1.f4⟩ : S32), (rd_T48 l0 x4_1).f1.f2⟩ : S34)]) := ⟨_, rfl⟩
                           replace H : (l13I.l1 k5 l0 y107 x4_1 x5_10 (wrap64 (x6_5 + 1))) = some r := q_2
                           have Ny107 := Aside0.mk hy_
                           clear hy_
                           have H' := Aside0.mk H
                           clear H
                           obtain ⟨Ao18, co18, eo18⟩ := Kd.R_slice HO_3.out
                           subst eo18
                           have p106 : 0 ≤ (x4_1 : Int) := of_decide_eq_true (m_1)
                           have q106 : x4_1 < (l0.length : Int) := of_decide_eq_true (m_1)
                           obtain ⟨ad106, e106, hx106_0, hx106_1, hx106_2, hx106_3, hx106_4, hx106_5, hx106_6, hx106_7⟩ := at_T48 HR0.out x4_1 p106 q106
                           obtain rfl : ad104 = ad106 := (by injection e106)
                           obtain ⟨hx106_0, hx106_1, hx106_2, hx106_3, hx106_4, hx106_5, hx106_6, hx106_7⟩ := mv8 HB.out hx106_0 hx106_1 hx106_2 hx106_3 hx106_4 hx106_5 hx106_6 hx106_7
                           replace p106 := eq_true p106
                           replace q106 := eq_true q106
                           go_wp2_with (first | ((with_reducible refine gate_builtin (b := .append) (xs := #[.tmp 44, .tmp 50]) rfl ?_); (try (refine gate_guard (by rfl) ?_; dsimp only)); at_builtin; refine Kd.R_append k34 (w0 := w) w.heap.size rfl (.tmp 44) (.tmp 50) 23 34 (.agg #[(.int .i64 0), (.int .i64 0), (.int .i64 0), (.int .i64 0), (.int .i64 0), (.int .i32 0), (.int .i64 0)]) 56 rfl Try.underlying23 info34 rfl (by decide) (by omega) (.slice Ao18 x3_5.length co18) x3_5 (⟨(rd_T48 l0 x4_1).f1.f0, (⟨(rd_T48 l0 x4_1).f1.f1.f0, (rd_T48 l0 x4_1).f1.f1.f1, (rd_T48 l0 x4_1).f1.f1.f2, (rd_T48 l0 x4_1).f1.f1.f3, (rd_T48 l0 x4_1).f1.f1.f4⟩ : S32), (rd_T48 l0 x4_1).f1.f2⟩ : S34) [.int .i64 ((rd_T48 l0 x4_1).f1.f0), .int .i64 ((rd_T48 l0 x4_1).f1.f1.f0), .int .i64 ((rd_T48 l0 x4_1).f1.f1.f1), .int .i64 ((rd_T48 l0 x4_1).f1.f1.f2), .int .i64 ((rd_T48 l0 x4_1).f1.f1.f3), .int .i32 ((rd_T48 l0 x4_1).f1.f1.f4), .int .i64 ((rd_T48 l0 x4_1).f1.f2)] (fun _ => True) (fun _ => False) rfl rfl ?aP (fun _ hk => hk.elim) ?aF ?aO ?aB ?aS ?aL ?_; (case aP => exact k34_mkM _ _ _ (⟨(rd_T48 l0 x4_1).f1.f0, (⟨(rd_T48 l0 x4_1).f1.f1.f0, (rd_T48 l0 x4_1).f1.f1.f1, (rd_T48 l0 x4_1).f1.f1.f2, (rd_T48 l0 x4_1).f1.f1.f3, (rd_T48 l0 x4_1).f1.f1.f4⟩ : S32), (rd_T48 l0 x4_1).f1.f2⟩ : S34)); (case aB => exact (m_0)); (case aF => exact (fun _ _ => trivial)); (case aO => exact (m_37)); (case aS => exact (below_size (m_0))); (case aL => have := LMc17.out; omega); intro v108 w19 ho hb hg hat; rw [← Ny107.out] at ho; have n0_ := Aside0.mk (hb); have n1_ := Aside0.mk (ho); clear HB; clear HO_3; have HB := n0_; have HO109 := n1_; clear n0_ n1_; clear ho hb hg hat))
                           go_roundg k5
                           case measure => have := HK1.out; have := HJ3.out; have := HJ8.out; have := HJ10.out; have := HK5.out; omega
                           case rel => exact ⟨(y107), (wrap64 (x6_5 + 1)), (m_5), H', ⟨by have := HK1.out; have := HJ3.out; have := HJ8.out; have := HJ10.out; have := HK5.out; omega⟩, ⟨by (with_reducible repeat (first | apply Kd.R_alloc | apply Kd.R_drewN | apply Kd.R_drew)); exact HO109.out⟩, ⟨m_0⟩⟩
                         · rw [if_neg c17] at H
                           exact absurd H (by simp)
                       · rw [if_neg c16] at H
                         exact absurd H (by simp)
                     · rw [if_neg c15] at H
                       exact absurd H (by simp)
                   · rw [if_neg c14] at H
                     have c14b0 : decide ((x3_5.length : Int) < 4000) = false := decide_eq_false c14
                     have c14b1 : decide (x3_5.length < 4000) = false := decide_eq_false (by omega)
                     clear c14
                     have H' := Aside0.mk H
                     clear H
                     obtain ⟨Ao20, co20, eo20⟩ := Kd.R_slice HO_3.out
                     subst eo20
                     exact lfxRsPintlelaw13Items0
                 · rw [if_neg c13] at H
                   have c13b0 : decide (x6_5 < x5_10) = false := decide_eq_false c13
                   clear c13
                   have H' := Aside0.mk H
                   clear H
                   exact lfxRsPintlelaw13Items0
         · rw [if_neg c8] at H
           exact absurd H (by simp)
       · rw [if_neg c7] at H
         exact absurd H (by simp)
     · replace c6 := Bool.eq_false_iff.mpr c6
       subst c6
       have H1 : (some x3_1) = some r := by rw [if_neg (show ¬ (false = true) by decide)] at H; exact H
       clear H
       have H := H1
       clear H1
       obtain rfl := Option.some.inj H
       go_wp2
       go_ret
       exact ⟨_, m_3, m_37, m_0⟩
end Go.Proofs.Ytihecimbhhlhaaa.PRs
