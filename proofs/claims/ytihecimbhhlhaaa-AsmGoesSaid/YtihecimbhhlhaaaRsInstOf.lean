/- inst_of: a plain function with the same answers as the program's, and the proof of it, as a program has written them. -/
import Derived.Test.YtihecimbhhlhaaaRsG1
import Derived.Test.YtihecimbhhlhaaaRsG8
import Derived.Test.YtihecimbhhlhaaaRsMc
namespace Go.Proofs.Ytihecimbhhlhaaa.PRs
open Go.RowKit Go.Proofs.YtihecimbhhlhaaaW.PrintWords Go.Proofs.YtihecimbhhlhaaaW.PrintLast Go.Proofs.YtihecimbhhlhaaaW.PrintMore
set_option linter.unusedVariables false
set_option linter.unusedSimpArgs false
/-! ### inst_of: function 47 -/
def inst_of.j0 : Nat → Int → Bool → Option (Int × Int × Int × Int × Bool × Bool × Bool × Bool × Bool)
 | 0, _, _ => none
 | k + 1, x0, x4 => if x4 = true then (some (0, 0, 0, 0, false, false, false, false, false)) else (if x0 ≤ 18 then ((ireg.f x0).bind fun bt115 => (some (bt115.1, bt115.2.1, bt115.2.2.1, bt115.2.2.2.1, bt115.2.2.2.2.1, bt115.2.2.2.2.2.1, bt115.2.2.2.2.2.2.1, bt115.2.2.2.2.2.2.2, true))) else (if x0 ≤ 27 then ((inum.f x0).bind fun bt123 => (some (bt123.1, bt123.2.1, bt123.2.2.1, bt123.2.2.2.1, bt123.2.2.2.2.1, bt123.2.2.2.2.2.1, bt123.2.2.2.2.2.2.1, bt123.2.2.2.2.2.2.2, true))) else (if x0 ≤ 32 then (if 0 ≤ (wrap64 (x0 - 28)) then (if (wrap64 (x0 - 28)) < 5 then (some (3, ((bt (⟨#[48, 49, 50, 52, 53]⟩ : ByteArray) (wrap64 (x0 - 28))) - 48) % 256, 0, 1, true, true, false, false, true)) else (none)) else (none)) else (if x0 ≤ 35 then (some (35, (wrap64 (x0 - 33)) % 4294967296, 0, 2, false, true, true, false, true)) else (if x0 ≤ 41 then (if 0 ≤ (wrap64 (x0 - 36)) then (if (wrap64 (x0 - 36)) < 6 then (some (99, ((bt (⟨#[48, 49, 52, 53, 54, 55]⟩ : ByteArray) (wrap64 (x0 - 36))) - 48) % 256, 0, 3, false, true, true, false, true)) else (none)) else (none)) else (if x0 = 42 then (some (55, 0, 0, 4, true, false, false, false, true)) else (if x0 = 43 then (some (23, 0, 0, 4, true, false, false, false, true)) else (if x0 = 44 then (some (111, 0, 0, 5, true, false, false, false, true)) else (if x0 = 45 then (some (103, 0, 0, 1, true, true, false, false, true)) else (some (15, 0, 0, 1, false, false, false, false, true)))))))))))
def inst_of.f (k : Nat) (a0 : Int) : Option (Int × Int × Int × Int × Bool × Bool × Bool × Bool × Bool) := if a0 < 1 then (inst_of.j0 k a0 true) else (inst_of.j0 k a0 (decide (a0 > 46)))
theorem inst_of.mono_l : ∀ k, (∀ y0 y1, LeO (inst_of.j0 k y0 y1) (inst_of.j0 (k + 1) y0 y1))
 | 0 => fun _ _ r h => by simp [inst_of.j0] at h
 | k + 1 => by
  have ih0 := inst_of.mono_l k
  · intro y0 y1
    unfold inst_of.j0
    repeat' first
    | (with_reducible exact ih0 _ _)
    | (with_reducible exact LeO.refl _)
    | (with_reducible exact LeO.none _)
    | (with_reducible refine LeO.ite ?_ ?_)
    | (with_reducible refine LeO.bind ?_ (fun _ => ?_))
    | exact ih0 _ _
    | exact LeO.none _
    | refine LeO.ite ?_ ?_
    | refine LeO.bind ?_ (fun _ => ?_)
theorem inst_of.mono : ∀ a0 k, LeO (inst_of.f k a0) (inst_of.f (k + 1) a0) := by
 intro a0 k
 have ih0 := inst_of.mono_l k
 unfold inst_of.f
 repeat' first
  | (with_reducible exact ih0 _ _)
  | (with_reducible exact LeO.refl _)
  | (with_reducible exact LeO.none _)
  | (with_reducible refine LeO.ite ?_ ?_)
  | (with_reducible refine LeO.bind ?_ (fun _ => ?_))
  | exact ih0 _ _
  | exact LeO.none _
  | refine LeO.ite ?_ ?_
  | refine LeO.bind ?_ (fun _ => ?_)
theorem lfxRsInstOf0 {P : Prop} (h : P := by
 exact ⟨m_3, m_34⟩) : P := h
set_option maxHeartbeats 8000000 in
set_option maxRecDepth 100000 in
theorem inst_of.calls (k : Nat) (a0 : Int) (r1 : Int) (r2 : Int) (r3 : Int) (r4 : Int) (r5 : Bool) (r6 : Bool) (r7 : Bool) (r8 : Bool) (r9 : Bool) (w : World) (h : inst_of.f k a0 = some (r1, r2, r3, r4, r5, r6, r7, r8, r9)) :
 Calls Try.prog 47 #[.int .i64 a0] w fun e w' => e = .returned (.tuple #[.agg #[.int .u32 r1, .int .u32 r2, .int .u32 r3, .int .i64 r4, .bool r5, .bool r6, .bool r7, .bool r8], .bool r9]) ∧ Below w.heap.size w w' := by
 have hu88 := Try.underlying88
 have HB := Aside0.mk (Below.refl w.heap.size w)
 have H : (if a0 < 1 then (inst_of.j0 k a0 true) else (inst_of.j0 k a0 (decide (a0 > 46)))) = some (r1, r2, r3, r4, r5, r6, r7, r8, r9) := h
 clear h
 have HC2 := Aside0.mk H
 clear H
 go_enter Try.func47, Try.ntmps47
 go_upto_region 1 with (first | ((with_reducible refine gate_dst (N := 2) rfl ?_); refine box_event ?hg (N := 2) ?hd (cs := #[.int .u32 0, .int .u32 0, .int .u32 0, .int .i64 0, .bool false, .bool false, .bool false, .bool false]) (t := 88) ?hr ?_; (case hd => rfl); (case hg => rfl); (case hr => exact m_14); intro gb114 hg w3 hbox hb; have n0_ := Aside0.mk (below_step (m_0) hb); have n1_ := Aside0.mk (hbox); have n2_ := Aside0.mk ((m_21 : w.heap.size ≤ gb114)); have n3_ := Aside0.mk ((m_21 : w.heap.size ≤ gb114)); clear HB; have HB := n0_; have BK114 := n1_; have GW114 := n2_; have GE114 := n3_; clear n0_ n1_ n2_ n3_; clear hb hbox hg))
 (try simp only [Act.put, List.setIfInBounds_toArray, List.set_cons_zero, List.set_cons_succ])
 go_cut [4] (fun v4 wc => ∃ (kq : Nat) (x4_1 : Bool), v4 = .bool x4_1 ∧ Aside0 (inst_of.j0 kq a0 x4_1 = some (r1, r2, r3, r4, r5, r6, r7, r8, r9)) ∧ Aside0 (kq ≤ k) ∧ Aside0 (wc.heap[gb114]? = some (.cells #[.int .u32 0, .int .u32 0, .int .u32 0, .int .i64 0, .bool false, .bool false, .bool false, .bool false] 88 (0, 0))) ∧ Aside0 (Below w.heap.size w wc))
 case first =>
  have H := HC2.out
  clear HC2
  by_cases c4 : a0 < 1
  · rw [if_pos c4] at H
    have c4b0 : decide (a0 < 1) = true := decide_eq_true c4
    clear c4
    (first | rw [c4b0] | (simp only [i64_w, i32_w]; rw [c4b0]) | skip)
    have H' := Aside0.mk H
    clear H
    go_wp2
    go_meet
    case rel => exact ⟨_, (true), (m_5), H', ⟨m_45⟩, ⟨m_59⟩, ⟨m_34⟩⟩
  · rw [if_neg c4] at H
    have c4b0 : decide (a0 < 1) = false := decide_eq_false c4
    clear c4
    (first | rw [c4b0] | (simp only [i64_w, i32_w]; rw [c4b0]) | skip)
    have H' := Aside0.mk H
    clear H
    go_wp2
    go_meet
    case rel => exact ⟨_, (decide (a0 > 46)), (m_5), H', ⟨m_45⟩, ⟨m_59⟩, ⟨m_34⟩⟩
 case rest =>
  clear HC2
  obtain ⟨kq, x4_1, rfl, HA, HJ1, BK114, HB⟩ := hcut
  cases kq with
  | zero => exact absurd HA.out (by simp [inst_of.j0])
  | succ kj1 =>
   have H := HA.out
   clear HA
   simp only [inst_of.j0] at H
   by_cases c5 : x4_1 = true
   · subst c5
     have H1 : (some (0, 0, 0, 0, false, false, false, false, false)) = some (r1, r2, r3, r4, r5, r6, r7, r8, r9) := by rw [if_pos rfl] at H; exact H
     clear H
     have H := H1
     clear H1
     simp only [Option.some.injEq, Prod.mk.injEq] at H
     obtain ⟨rfl, rfl, rfl, rfl, rfl, rfl, rfl, rfl, rfl⟩ := H
     obtain ⟨hcz6_0, hcz6_1, hcz6_2, hcz6_3, hcz6_4, hcz6_5, hcz6_6, hcz6_7, hfz6_0, hfz6_1, hfz6_2, hfz6_3, hfz6_4, hfz6_5, hfz6_6, hfz6_7⟩ := cz8 (w := wc) BK114.out
     go_wp2
     refine bodyPost_ret (results_ct rfl _ _ gb114 88 #[.int .u32 0, .int .u32 0, .int .u32 0, .int .i64 0, .bool false, .bool false, .bool false, .bool false] (0, 0) _ rfl (q_0) Try.underlying88 rfl (by kernel_rfl)) rfl ?_
     exact lfxRsInstOf0
   · replace c5 := Bool.eq_false_iff.mpr c5
     subst c5
     have H1 : (if a0 ≤ 18 then ((ireg.f a0).bind fun bt115 => (some (bt115.1, bt115.2.1, bt115.2.2.1, bt115.2.2.2.1, bt115.2.2.2.2.1, bt115.2.2.2.2.2.1, bt115.2.2.2.2.2.2.1, bt115.2.2.2.2.2.2.2, true))) else (if a0 ≤ 27 then ((inum.f a0).bind fun bt123 => (some (bt123.1, bt123.2.1, bt123.2.2.1, bt123.2.2.2.1, bt123.2.2.2.2.1, bt123.2.2.2.2.2.1, bt123.2.2.2.2.2.2.1, bt123.2.2.2.2.2.2.2, true))) else (if a0 ≤ 32 then (if 0 ≤ (wrap64 (a0 - 28)) then (if (wrap64 (a0 - 28)) < 5 then (some (3, ((bt (⟨#[48, 49, 50, 52, 53]⟩ : ByteArray) (wrap64 (a0 - 28))) - 48) % 256, 0, 1, true, true, false, false, true)) else (none)) else (none)) else (if a0 ≤ 35 then (some (35, (wrap64 (a0 - 33)) % 4294967296, 0, 2, false, true, true, false, true)) else (if a0 ≤ 41 then (if 0 ≤ (wrap64 (a0 - 36)) then (if (wrap64 (a0 - 36)) < 6 then (some (99, ((bt (⟨#[48, 49, 52, 53, 54, 55]⟩ : ByteArray) (wrap64 (a0 - 36))) - 48) % 256, 0, 3, false, true, true, false, true)) else (none)) else (none)) else (if a0 = 42 then (some (55, 0, 0, 4, true, false, false, false, true)) else (if a0 = 43 then (some (23, 0, 0, 4, true, false, false, false, true)) else (if a0 = 44 then (some (111, 0, 0, 5, true, false, false, false, true)) else (if a0 = 45 then (some (103, 0, 0, 1, true, true, false, false, true)) else (some (15, 0, 0, 1, false, false, false, false, true))))))))))) = some (r1, r2, r3, r4, r5, r6, r7, r8, r9) := by rw [if_neg (show ¬ (false = true) by decide)] at H; exact H
     clear H
     have H := H1
     clear H1
     by_cases c7 : a0 ≤ 18
     · rw [if_pos c7] at H
       have c7b0 : decide (a0 ≤ 18) = true := decide_eq_true c7
       clear c7
       replace H := Option.bind_eq_some_iff.mp H
       obtain ⟨⟨t115, t116, t117, t118, t119, t120, t121, t122⟩, A80, H⟩ := H
       replace H : (some (t115, t116, t117, t118, t119, t120, t121, t122, true)) = some (r1, r2, r3, r4, r5, r6, r7, r8, r9) := H
       have A8 := Aside0.mk A80
       clear A80
       simp only [Option.some.injEq, Prod.mk.injEq] at H
       obtain ⟨rfl, rfl, rfl, rfl, rfl, rfl, rfl, rfl, rfl⟩ := H
       go_wp2_with (first | ((with_reducible refine gate_callee (f := 52) rfl ?_); refine goesL_ (some 16) rfl rfl Try.func52 (by kernel_rfl) rfl #[.int .i64 a0] rfl (m_8) ?_; (with_reducible refine (ireg.calls a0 t115 t116 t117 t118 t119 t120 t121 t122 _ A8.out).mono ?_); rintro e w9 ⟨rfl, hb⟩; refine ⟨_, rfl, ?_⟩; have n0_ := Aside0.mk (blk_below (g := gb114) (o := .cells #[.int .u32 0, .int .u32 0, .int .u32 0, .int .i64 0, .bool false, .bool false, .bool false, .bool false] 88 (0, 0)) (m_59) hb); have n1_ := Aside0.mk (below_step (m_34) hb); clear BK114; clear HB; have BK114 := n0_; have HB := n1_; clear n0_ n1_; (try clear hb); (try clear hb2); (try clear hk); (try clear hi); obtain ⟨hcz10_0, hcz10_1, hcz10_2, hcz10_3, hcz10_4, hcz10_5, hcz10_6, hcz10_7, hfz10_0, hfz10_1, hfz10_2, hfz10_3, hfz10_4, hfz10_5, hfz10_6, hfz10_7⟩ := cz8 (w := w9) BK114.out))
       refine bodyPost_ret (results_ct rfl _ _ gb114 88 #[.int .u32 t115, .int .u32 t116, .int .u32 t117, .int .i64 t118, .bool t119, .bool t120, .bool t121, .bool t122] (0, 0) _ rfl (q_0) Try.underlying88 rfl (by kernel_rfl)) rfl ?_
       exact lfxRsInstOf0
     · rw [if_neg c7] at H
       have c7b0 : decide (a0 ≤ 18) = false := decide_eq_false c7
       clear c7
       by_cases c11 : a0 ≤ 27
       · rw [if_pos c11] at H
         have c11b0 : decide (a0 ≤ 27) = true := decide_eq_true c11
         clear c11
         replace H := Option.bind_eq_some_iff.mp H
         obtain ⟨⟨t123, t124, t125, t126, t127, t128, t129, t130⟩, A120, H⟩ := H
         replace H : (some (t123, t124, t125, t126, t127, t128, t129, t130, true)) = some (r1, r2, r3, r4, r5, r6, r7, r8, r9) := H
         have A12 := Aside0.mk A120
         clear A120
         simp only [Option.some.injEq, Prod.mk.injEq] at H
         obtain ⟨rfl, rfl, rfl, rfl, rfl, rfl, rfl, rfl, rfl⟩ := H
         go_wp2_with (first | ((with_reducible refine gate_callee (f := 53) rfl ?_); refine goesL_ (some 21) rfl rfl Try.func53 (by kernel_rfl) rfl #[.int .i64 a0] rfl (m_8) ?_; (with_reducible refine (inum.calls a0 t123 t124 t125 t126 t127 t128 t129 t130 _ A12.out).mono ?_); rintro e w13 ⟨rfl, hb⟩; refine ⟨_, rfl, ?_⟩; have n0_ := Aside0.mk (blk_below (g := gb114) (o := .cells #[.int .u32 0, .int .u32 0, .int .u32 0, .int .i64 0, .bool false, .bool false, .bool false, .bool false] 88 (0, 0)) (m_59) hb); have n1_ := Aside0.mk (below_step (m_34) hb); clear BK114; clear HB; have BK114 := n0_; have HB := n1_; clear n0_ n1_; (try clear hb); (try clear hb2); (try clear hk); (try clear hi); obtain ⟨hcz14_0, hcz14_1, hcz14_2, hcz14_3, hcz14_4, hcz14_5, hcz14_6, hcz14_7, hfz14_0, hfz14_1, hfz14_2, hfz14_3, hfz14_4, hfz14_5, hfz14_6, hfz14_7⟩ := cz8 (w := w13) BK114.out))
         refine bodyPost_ret (results_ct rfl _ _ gb114 88 #[.int .u32 t123, .int .u32 t124, .int .u32 t125, .int .i64 t126, .bool t127, .bool t128, .bool t129, .bool t130] (0, 0) _ rfl (q_0) Try.underlying88 rfl (by kernel_rfl)) rfl ?_
         exact lfxRsInstOf0
       · rw [if_neg c11] at H
         have c11b0 : decide (a0 ≤ 27) = false := decide_eq_false c11
         clear c11
         by_cases c15 : a0 ≤ 32
         · rw [if_pos c15] at H
           have c15b0 : decide (a0 ≤ 32) = true := decide_eq_true c15
           clear c15
           obtain ⟨ji16, hji16⟩ : ∃ j_ : Int, (wrap64 (a0 - 28)) = j_ := ⟨_, rfl⟩
           replace H : (if 0 ≤ (ji16) then (if (ji16) < 5 then (some (3, ((bt (⟨#[48, 49, 50, 52, 53]⟩ : ByteArray) (ji16)) - 48) % 256, 0, 1, true, true, false, false, true)) else (none)) else (none)) = some (r1, r2, r3, r4, r5, r6, r7, r8, r9) := by first | (rw [hji16] at H; exact H) | (simp only [hji16] at H ⊢; exact H)
           have hji16w : (IntKind.i64.wrap (a0 - 28)) = ji16 := (i64_w _).trans hji16
           by_cases c17 : 0 ≤ (ji16)
           · rw [if_pos c17] at H
             have c17b0 : decide (0 ≤ (ji16)) = true := decide_eq_true c17
             clear c17
             by_cases c18 : (ji16) < 5
             · rw [if_pos c18] at H
               have c18b0 : decide ((ji16) < 5) = true := decide_eq_true c18
               clear c18
               simp only [Option.some.injEq, Prod.mk.injEq] at H
               obtain ⟨rfl, rfl, rfl, rfl, rfl, rfl, rfl, rfl, rfl⟩ := H
               have p19 : 0 ≤ ((ji16) : Int) := of_decide_eq_true (m_1)
               have q19 : (ji16) < (5 : Int) := of_decide_eq_true (m_1)
               have hx19 := bt_at (⟨#[48, 49, 50, 52, 53]⟩ : ByteArray) (ji16)
               replace p19 := eq_true p19
               replace q19 := eq_true q19
               obtain ⟨hcz20_0, hcz20_1, hcz20_2, hcz20_3, hcz20_4, hcz20_5, hcz20_6, hcz20_7, hfz20_0, hfz20_1, hfz20_2, hfz20_3, hfz20_4, hfz20_5, hfz20_6, hfz20_7⟩ := cz8 (w := wc) BK114.out
               go_wp2
               refine bodyPost_ret (results_ct rfl _ _ gb114 88 #[.int .u32 3, .int .u32 (((bt (⟨#[48, 49, 50, 52, 53]⟩ : ByteArray) (ji16)) - 48) % 256), .int .u32 0, .int .i64 1, .bool true, .bool true, .bool false, .bool false] (0, 0) _ rfl (q_0) Try.underlying88 rfl (by kernel_rfl)) rfl ?_
               exact ⟨by first | rfl | (simp [errW_none, errW_some] <;> rfl) | (simp only [← hji16]; first | rfl | (simp [errW_none, errW_some] <;> rfl)) | (simp [*, errW_none, errW_some] <;> rfl), m_34⟩
             · rw [if_neg c18] at H
               exact absurd H (by simp)
           · rw [if_neg c17] at H
             exact absurd H (by simp)
         · rw [if_neg c15] at H
           have c15b0 : decide (a0 ≤ 32) = false := decide_eq_false c15
           clear c15
           by_cases c21 : a0 ≤ 35
           · rw [if_pos c21] at H
             have c21b0 : decide (a0 ≤ 35) = true := decide_eq_true c21
             clear c21
             simp only [Option.some.injEq, Prod.mk.injEq] at H
             obtain ⟨rfl, rfl, rfl, rfl, rfl, rfl, rfl, rfl, rfl⟩ := H
             obtain ⟨hcz22_0, hcz22_1, hcz22_2, hcz22_3, hcz22_4, hcz22_5, hcz22_6, hcz22_7, hfz22_0, hfz22_1, hfz22_2, hfz22_3, hfz22_4, hfz22_5, hfz22_6, hfz22_7⟩ := cz8 (w := wc) BK114.out
             go_wp2
             refine bodyPost_ret (results_ct rfl _ _ gb114 88 #[.int .u32 35, .int .u32 ((wrap64 (a0 - 33)) % 4294967296), .int .u32 0, .int .i64 2, .bool false, .bool true, .bool true, .bool false] (0, 0) _ rfl (q_0) Try.underlying88 rfl (by kernel_rfl)) rfl ?_
             exact lfxRsInstOf0
           · rw [if_neg c21] at H
             have c21b0 : decide (a0 ≤ 35) = false := decide_eq_false c21
             clear c21
             by_cases c23 : a0 ≤ 41
             · rw [if_pos c23] at H
               have c23b0 : decide (a0 ≤ 41) = true := decide_eq_true c23
               clear c23
               obtain ⟨ji24, hji24⟩ : ∃ j_ : Int, (wrap64 (a0 - 36)) = j_ := ⟨_, rfl⟩
               replace H : (if 0 ≤ (ji24) then (if (ji24) < 6 then (some (99, ((bt (⟨#[48, 49, 52, 53, 54, 55]⟩ : ByteArray) (ji24)) - 48) % 256, 0, 3, false, true, true, false, true)) else (none)) else (none)) = some (r1, r2, r3, r4, r5, r6, r7, r8, r9) := by first | (rw [hji24] at H; exact H) | (simp only [hji24] at H ⊢; exact H)
               have hji24w : (IntKind.i64.wrap (a0 - 36)) = ji24 := (i64_w _).trans hji24
               by_cases c25 : 0 ≤ (ji24)
               · rw [if_pos c25] at H
                 have c25b0 : decide (0 ≤ (ji24)) = true := decide_eq_true c25
                 clear c25
                 by_cases c26 : (ji24) < 6
                 · rw [if_pos c26] at H
                   have c26b0 : decide ((ji24) < 6) = true := decide_eq_true c26
                   clear c26
                   simp only [Option.some.injEq, Prod.mk.injEq] at H
                   obtain ⟨rfl, rfl, rfl, rfl, rfl, rfl, rfl, rfl, rfl⟩ := H
                   have p27 : 0 ≤ ((ji24) : Int) := of_decide_eq_true (m_1)
                   have q27 : (ji24) < (6 : Int) := of_decide_eq_true (m_1)
                   have hx27 := bt_at (⟨#[48, 49, 52, 53, 54, 55]⟩ : ByteArray) (ji24)
                   replace p27 := eq_true p27
                   replace q27 := eq_true q27
                   obtain ⟨hcz28_0, hcz28_1, hcz28_2, hcz28_3, hcz28_4, hcz28_5, hcz28_6, hcz28_7, hfz28_0, hfz28_1, hfz28_2, hfz28_3, hfz28_4, hfz28_5, hfz28_6, hfz28_7⟩ := cz8 (w := wc) BK114.out
                   go_wp2
                   refine bodyPost_ret (results_ct rfl _ _ gb114 88 #[.int .u32 99, .int .u32 (((bt (⟨#[48, 49, 52, 53, 54, 55]⟩ : ByteArray) (ji24)) - 48) % 256), .int .u32 0, .int .i64 3, .bool false, .bool true, .bool true, .bool false] (0, 0) _ rfl (q_0) Try.underlying88 rfl (by kernel_rfl)) rfl ?_
                   exact ⟨by first | rfl | (simp [errW_none, errW_some] <;> rfl) | (simp only [← hji24]; first | rfl | (simp [errW_none, errW_some] <;> rfl)) | (simp [*, errW_none, errW_some] <;> rfl), m_34⟩
                 · rw [if_neg c26] at H
                   exact absurd H (by simp)
               · rw [if_neg c25] at H
                 exact absurd H (by simp)
             · rw [if_neg c23] at H
               have c23b0 : decide (a0 ≤ 41) = false := decide_eq_false c23
               clear c23
               by_cases c29 : a0 = 42
               · rw [if_pos c29] at H
                 have c29b0 : (a0 == 42) = true := beq_iff_eq.mpr c29
                 have c29b1 : (a0 != 42) = false := bne_eq_false_iff_eq.mpr c29
                 clear c29
                 simp only [Option.some.injEq, Prod.mk.injEq] at H
                 obtain ⟨rfl, rfl, rfl, rfl, rfl, rfl, rfl, rfl, rfl⟩ := H
                 obtain ⟨hcz30_0, hcz30_1, hcz30_2, hcz30_3, hcz30_4, hcz30_5, hcz30_6, hcz30_7, hfz30_0, hfz30_1, hfz30_2, hfz30_3, hfz30_4, hfz30_5, hfz30_6, hfz30_7⟩ := cz8 (w := wc) BK114.out
                 go_wp2
                 refine bodyPost_ret (results_ct rfl _ _ gb114 88 #[.int .u32 55, .int .u32 0, .int .u32 0, .int .i64 4, .bool true, .bool false, .bool false, .bool false] (0, 0) _ rfl (q_0) Try.underlying88 rfl (by kernel_rfl)) rfl ?_
                 exact lfxRsInstOf0
               · rw [if_neg c29] at H
                 have c29b0 : (a0 == 42) = false := beq_eq_false_iff_ne.mpr c29
                 have c29b1 : (a0 != 42) = true := bne_iff_ne.mpr c29
                 by_cases c31 : a0 = 43
                 · rw [if_pos c31] at H
                   have c31b0 : (a0 == 43) = true := beq_iff_eq.mpr c31
                   have c31b1 : (a0 != 43) = false := bne_eq_false_iff_eq.mpr c31
                   clear c31
                   simp only [Option.some.injEq, Prod.mk.injEq] at H
                   obtain ⟨rfl, rfl, rfl, rfl, rfl, rfl, rfl, rfl, rfl⟩ := H
                   obtain ⟨hcz32_0, hcz32_1, hcz32_2, hcz32_3, hcz32_4, hcz32_5, hcz32_6, hcz32_7, hfz32_0, hfz32_1, hfz32_2, hfz32_3, hfz32_4, hfz32_5, hfz32_6, hfz32_7⟩ := cz8 (w := wc) BK114.out
                   go_wp2
                   refine bodyPost_ret (results_ct rfl _ _ gb114 88 #[.int .u32 23, .int .u32 0, .int .u32 0, .int .i64 4, .bool true, .bool false, .bool false, .bool false] (0, 0) _ rfl (q_0) Try.underlying88 rfl (by kernel_rfl)) rfl ?_
                   exact lfxRsInstOf0
                 · rw [if_neg c31] at H
                   have c31b0 : (a0 == 43) = false := beq_eq_false_iff_ne.mpr c31
                   have c31b1 : (a0 != 43) = true := bne_iff_ne.mpr c31
                   by_cases c33 : a0 = 44
                   · rw [if_pos c33] at H
                     have c33b0 : (a0 == 44) = true := beq_iff_eq.mpr c33
                     have c33b1 : (a0 != 44) = false := bne_eq_false_iff_eq.mpr c33
                     clear c33
                     simp only [Option.some.injEq, Prod.mk.injEq] at H
                     obtain ⟨rfl, rfl, rfl, rfl, rfl, rfl, rfl, rfl, rfl⟩ := H
                     obtain ⟨hcz34_0, hcz34_1, hcz34_2, hcz34_3, hcz34_4, hcz34_5, hcz34_6, hcz34_7, hfz34_0, hfz34_1, hfz34_2, hfz34_3, hfz34_4, hfz34_5, hfz34_6, hfz34_7⟩ := cz8 (w := wc) BK114.out
                     go_wp2
                     refine bodyPost_ret (results_ct rfl _ _ gb114 88 #[.int .u32 111, .int .u32 0, .int .u32 0, .int .i64 5, .bool true, .bool false, .bool false, .bool false] (0, 0) _ rfl (q_0) Try.underlying88 rfl (by kernel_rfl)) rfl ?_
                     exact lfxRsInstOf0
                   · rw [if_neg c33] at H
                     have c33b0 : (a0 == 44) = false := beq_eq_false_iff_ne.mpr c33
                     have c33b1 : (a0 != 44) = true := bne_iff_ne.mpr c33
                     by_cases c35 : a0 = 45
                     · rw [if_pos c35] at H
                       have c35b0 : (a0 == 45) = true := beq_iff_eq.mpr c35
                       have c35b1 : (a0 != 45) = false := bne_eq_false_iff_eq.mpr c35
                       clear c35
                       simp only [Option.some.injEq, Prod.mk.injEq] at H
                       obtain ⟨rfl, rfl, rfl, rfl, rfl, rfl, rfl, rfl, rfl⟩ := H
                       obtain ⟨hcz36_0, hcz36_1, hcz36_2, hcz36_3, hcz36_4, hcz36_5, hcz36_6, hcz36_7, hfz36_0, hfz36_1, hfz36_2, hfz36_3, hfz36_4, hfz36_5, hfz36_6, hfz36_7⟩ := cz8 (w := wc) BK114.out
                       go_wp2
                       refine bodyPost_ret (results_ct rfl _ _ gb114 88 #[.int .u32 103, .int .u32 0, .int .u32 0, .int .i64 1, .bool true, .bool true, .bool false, .bool false] (0, 0) _ rfl (q_0) Try.underlying88 rfl (by kernel_rfl)) rfl ?_
                       exact lfxRsInstOf0
                     · rw [if_neg c35] at H
                       have c35b0 : (a0 == 45) = false := beq_eq_false_iff_ne.mpr c35
                       have c35b1 : (a0 != 45) = true := bne_iff_ne.mpr c35
                       simp only [Option.some.injEq, Prod.mk.injEq] at H
                       obtain ⟨rfl, rfl, rfl, rfl, rfl, rfl, rfl, rfl, rfl⟩ := H
                       obtain ⟨hcz37_0, hcz37_1, hcz37_2, hcz37_3, hcz37_4, hcz37_5, hcz37_6, hcz37_7, hfz37_0, hfz37_1, hfz37_2, hfz37_3, hfz37_4, hfz37_5, hfz37_6, hfz37_7⟩ := cz8 (w := wc) BK114.out
                       go_wp2
                       refine bodyPost_ret (results_ct rfl _ _ gb114 88 #[.int .u32 15, .int .u32 0, .int .u32 0, .int .i64 1, .bool false, .bool false, .bool false, .bool false] (0, 0) _ rfl (q_0) Try.underlying88 rfl (by kernel_rfl)) rfl ?_
                       exact lfxRsInstOf0
end Go.Proofs.Ytihecimbhhlhaaa.PRs
