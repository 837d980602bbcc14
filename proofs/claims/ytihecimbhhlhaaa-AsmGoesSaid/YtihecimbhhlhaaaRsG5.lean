/- RsPseudoReg, RsPseudoShort, RsPseudoSetx, RsPseudoSet, RsPseudoTurn: texts put together. -/
import Derived.Test.YtihecimbhhlhaaaRsG1
import Derived.Test.YtihecimbhhlhaaaRsMc
section
namespace Go.Proofs.Ytihecimbhhlhaaa.PRs
open Go.RowKit Go.Proofs.YtihecimbhhlhaaaW.PrintWords Go.Proofs.YtihecimbhhlhaaaW.PrintLast Go.Proofs.YtihecimbhhlhaaaW.PrintMore
set_option linter.unusedVariables false
set_option linter.unusedSimpArgs false
attribute [local go_sem high] eqA32
/-! ### pseudo_reg: function 50 -/
def pseudo_reg.f (a0 : Int) : Option (Bool) := if a0 ≥ 0 then (some (decide (a0 < 32))) else (some false)
set_option maxHeartbeats 8000000 in
set_option maxRecDepth 100000 in
theorem pseudo_reg.calls (a0 : Int) (r : Bool) (w : World) (h : pseudo_reg.f a0 = some r) :
 Calls Try.prog 50 #[.int .i64 a0] w fun e w' => e = .returned (.bool r) ∧ Drawn0 w w' := by
 have H : (if a0 ≥ 0 then (some (decide (a0 < 32))) else (some false)) = some r := h
 clear h
 by_cases c2 : a0 ≥ 0
 · rw [if_pos c2] at H
   have c2b0 : decide (0 ≤ a0) = true := decide_eq_true c2
   clear c2
   obtain rfl := Option.some.inj H
   go_enter Try.func50, Try.ntmps50
   go_wp2
   go_ret
   exact ⟨m_5, m_19⟩
 · rw [if_neg c2] at H
   have c2b0 : decide (0 ≤ a0) = false := decide_eq_false c2
   clear c2
   obtain rfl := Option.some.inj H
   go_enter Try.func50, Try.ntmps50
   go_wp2
   go_ret
   exact ⟨m_5, m_19⟩
end Go.Proofs.Ytihecimbhhlhaaa.PRs
end
section
namespace Go.Proofs.Ytihecimbhhlhaaa.PRs
open Go.RowKit Go.Proofs.YtihecimbhhlhaaaW.PrintWords Go.Proofs.YtihecimbhhlhaaaW.PrintLast Go.Proofs.YtihecimbhhlhaaaW.PrintMore
set_option linter.unusedVariables false
set_option linter.unusedSimpArgs false
attribute [local go_sem high] eqA32
/-! ### pseudo_short: function 51 -/
def pseudo_short.f (a0 : Int) : Option (Bool) := if a0 ≥ (-2048) then (some (decide (a0 ≤ 2047))) else (some false)
set_option maxHeartbeats 8000000 in
set_option maxRecDepth 100000 in
theorem pseudo_short.calls (a0 : Int) (r : Bool) (w : World) (h : pseudo_short.f a0 = some r) :
 Calls Try.prog 51 #[.int .i32 a0] w fun e w' => e = .returned (.bool r) ∧ Drawn0 w w' := by
 have H : (if a0 ≥ (-2048) then (some (decide (a0 ≤ 2047))) else (some false)) = some r := h
 clear h
 by_cases c2 : a0 ≥ (-2048)
 · rw [if_pos c2] at H
   have c2b0 : decide ((-2048) ≤ a0) = true := decide_eq_true c2
   clear c2
   obtain rfl := Option.some.inj H
   go_enter Try.func51, Try.ntmps51
   go_wp2
   go_ret
   exact ⟨m_5, m_19⟩
 · rw [if_neg c2] at H
   have c2b0 : decide ((-2048) ≤ a0) = false := decide_eq_false c2
   clear c2
   obtain rfl := Option.some.inj H
   go_enter Try.func51, Try.ntmps51
   go_wp2
   go_ret
   exact ⟨m_5, m_19⟩
end Go.Proofs.Ytihecimbhhlhaaa.PRs
end
section
namespace Go.Proofs.Ytihecimbhhlhaaa.PRs
open Go.RowKit Go.Proofs.YtihecimbhhlhaaaW.PrintWords Go.Proofs.YtihecimbhhlhaaaW.PrintLast Go.Proofs.YtihecimbhhlhaaaW.PrintMore
set_option linter.unusedVariables false
set_option linter.unusedSimpArgs false
attribute [local go_sem high] eqA32
/-! ### pset: function 46 -/
def pset.j0 : Nat → Int → Int → Bool → Option ((List (S32)))
 | 0, _, _, _ => none
 | k + 1, x0, x1, x14 => if x14 = true then (some ([] : List (S32))) else ((pseudo_short.f x1).bind fun t189 => (if t189 = true then (some (([(⟨19, x0, 0, 0, x1⟩ : S32)] : List (S32)))) else ((some (([(⟨42, x0, 0, 0, Go.bits .and .i32 (wrap32 (x1 + 2048)) (-4096)⟩ : S32)] : List (S32)) : List (S32))).bind fun y193 => (if (wrap32 (x1 - (Go.bits .and .i32 (wrap32 (x1 + 2048)) (-4096)))) = 0 then (some y193) else (if y193.length < 3518437208883 then (some (y193 ++ [(⟨19, x0, x0, 0, wrap32 (x1 - (Go.bits .and .i32 (wrap32 (x1 + 2048)) (-4096)))⟩ : S32)])) else (none))))))
def pset.f (k : Nat) (a0 : Int) (a1 : Int) : Option ((List (S32))) := (pseudo_reg.f a0).bind fun t188 => (if t188 = true then (pset.j0 k a0 a1 (a0 == 0)) else (pset.j0 k a0 a1 true))
set_option maxHeartbeats 8000000 in
set_option maxRecDepth 100000 in
theorem pset.calls (k : Nat) (a0 : Int) (a1 : Int) (r : List (S32)) (w : World) (h : pset.f k a0 a1 = some r) :
 Calls Try.prog 46 #[.int .i64 a0, .int .i32 a1] w fun e w' => ∃ v0_ : Value, e = .returned (v0_) ∧ Kd.R k32 32 w' w.heap.size (fun _ => True) v0_ r ∧ Below w.heap.size w w' := by
 have hu32 := Try.underlying32
 have HB := Aside0.mk (Below.refl w.heap.size w)
 have H : ((pseudo_reg.f a0).bind fun t188 => (if t188 = true then (pset.j0 k a0 a1 (a0 == 0)) else (pset.j0 k a0 a1 true))) = some r := h
 clear h
 have HC3 := Aside0.mk H
 clear H
 go_enter Try.func46, Try.ntmps46
 go_upto_region 1 with (fail)
 go_cut [14] (fun v14 wc => ∃ (kq : Nat) (x14_2 : Bool), v14 = .bool x14_2 ∧ Aside0 (pset.j0 kq a0 a1 x14_2 = some r) ∧ Aside0 (kq ≤ k) ∧ Aside0 (Below w.heap.size w wc))
 case first =>
  have H := HC3.out
  clear HC3
  replace H := Option.bind_eq_some_iff.mp H
  obtain ⟨t188, A40, H⟩ := H
  replace H : (if t188 = true then (pset.j0 k a0 a1 (a0 == 0)) else (pset.j0 k a0 a1 true)) = some r := H
  have A4 := Aside0.mk A40
  clear A40
  by_cases c5 : t188 = true
  · subst c5
    have H1 : (pset.j0 k a0 a1 (a0 == 0)) = some r := by rw [if_pos rfl] at H; exact H
    clear H
    have H := H1
    clear H1
    have H' := Aside0.mk H
    clear H
    go_wp2_with (first | ((with_reducible refine gate_callee (f := 50) rfl ?_); refine goesL_ (some 9) rfl rfl Try.func50 (by kernel_rfl) rfl #[.int .i64 a0] rfl (m_8) ?_; (with_reducible refine (pseudo_reg.calls a0 true _ A4.out).mono ?_); rintro e w' ⟨rfl, ⟨nd, rfl⟩⟩; refine ⟨_, rfl, ?_⟩))
    go_meet
    case rel => exact ⟨_, ((a0 == 0)), (m_5), H', ⟨m_45⟩, ⟨m_0⟩⟩
  · replace c5 := Bool.eq_false_iff.mpr c5
    subst c5
    have H1 : (pset.j0 k a0 a1 true) = some r := by rw [if_neg (show ¬ (false = true) by decide)] at H; exact H
    clear H
    have H := H1
    clear H1
    have H' := Aside0.mk H
    clear H
    go_wp2_with (first | ((with_reducible refine gate_callee (f := 50) rfl ?_); refine goesL_ (some 9) rfl rfl Try.func50 (by kernel_rfl) rfl #[.int .i64 a0] rfl (m_8) ?_; (with_reducible refine (pseudo_reg.calls a0 false _ A4.out).mono ?_); rintro e w' ⟨rfl, ⟨nd, rfl⟩⟩; refine ⟨_, rfl, ?_⟩))
    go_meet
    case rel => exact ⟨_, (true), (m_5), H', ⟨m_45⟩, ⟨m_0⟩⟩
 case rest =>
  clear HC3
  obtain ⟨kq, x14_2, rfl, HA, HJ2, HB⟩ := hcut
  cases kq with
  | zero => exact absurd HA.out (by simp [pset.j0])
  | succ kj2 =>
   have H := HA.out
   clear HA
   simp only [pset.j0] at H
   by_cases c6 : x14_2 = true
   · subst c6
     have H1 : (some ([] : List (S32))) = some r := by rw [if_pos rfl] at H; exact H
     clear H
     have H := H1
     clear H1
     obtain rfl := Option.some.inj H
     go_wp2
     go_ret
     exact ⟨_, m_3, by first | exact Kd.R_nil _ _ _ _ _ | exact Kd.N_nil _ _ _ _ _ | exact Kd.V_nil _ _ _ _ _ | exact Kd.Q_nil _ _ _ _ _ | exact Kd.S_nil _ _ _ _ _, m_0⟩
   · replace c6 := Bool.eq_false_iff.mpr c6
     subst c6
     have H1 : ((pseudo_short.f a1).bind fun t189 => (if t189 = true then (some (([(⟨19, a0, 0, 0, a1⟩ : S32)] : List (S32)))) else ((some (([(⟨42, a0, 0, 0, Go.bits .and .i32 (wrap32 (a1 + 2048)) (-4096)⟩ : S32)] : List (S32)) : List (S32))).bind fun y193 => (if (wrap32 (a1 - (Go.bits .and .i32 (wrap32 (a1 + 2048)) (-4096)))) = 0 then (some y193) else (if y193.length < 3518437208883 then (some (y193 ++ [(⟨19, a0, a0, 0, wrap32 (a1 - (Go.bits .and .i32 (wrap32 (a1 + 2048)) (-4096)))⟩ : S32)])) else (none)))))) = some r := by rw [if_neg (show ¬ (false = true) by decide)] at H; exact H
     clear H
     have H := H1
     clear H1
     replace H := Option.bind_eq_some_iff.mp H
     obtain ⟨t189, A70, H⟩ := H
     replace H : (if t189 = true then (some (([(⟨19, a0, 0, 0, a1⟩ : S32)] : List (S32)))) else ((some (([(⟨42, a0, 0, 0, Go.bits .and .i32 (wrap32 (a1 + 2048)) (-4096)⟩ : S32)] : List (S32)) : List (S32))).bind fun y193 => (if (wrap32 (a1 - (Go.bits .and .i32 (wrap32 (a1 + 2048)) (-4096)))) = 0 then (some y193) else (if y193.length < 3518437208883 then (some (y193 ++ [(⟨19, a0, a0, 0, wrap32 (a1 - (Go.bits .and .i32 (wrap32 (a1 + 2048)) (-4096)))⟩ : S32)])) else (none))))) = some r := H
     have A7 := Aside0.mk A70
     clear A70
     by_cases c8 : t189 = true
     · subst c8
       have H1 : (some (([(⟨19, a0, 0, 0, a1⟩ : S32)] : List (S32)))) = some r := by rw [if_pos rfl] at H; exact H
       clear H
       have H := H1
       clear H1
       obtain ⟨y190, hy190⟩ : ∃ y_ : List (S32), y_ = (([(⟨19, a0, 0, 0, a1⟩ : S32)] : List (S32))) := ⟨_, rfl⟩
       replace H : (some y190) = some r := by first | (rw [hy190]; with_reducible exact H) | (have H2_ := (Option.bind_some _ _).symm.trans H; rw [hy190]; with_reducible exact H2_) | (have H2_ := (Option.bind_some _ _).symm.trans H; with_reducible exact H2_) | with_reducible exact H | (rw [hy190]; exact H) | exact H
       have Ny190 := Aside0.mk hy190
       clear hy190
       obtain rfl := Option.some.inj H
       go_wp2_with (first | ((with_reducible refine gate_callee (f := 51) rfl ?_); refine goesL_ (some 16) rfl rfl Try.func51 (by kernel_rfl) rfl #[.int .i32 a1] rfl (m_8) ?_; (with_reducible refine (pseudo_short.calls a1 true _ A7.out).mono ?_); rintro e w' ⟨rfl, ⟨nd, rfl⟩⟩; refine ⟨_, rfl, ?_⟩) | ((with_reducible refine gate_dst (N := 20) rfl ?_); refine Kd.R_lit k32 _ 32 ?hg (N := 20) ?hd (xs := ([(⟨19, a0, 0, 0, a1⟩ : S32)] : List (S32))) (inner := [.int .i64 19, .int .i64 a0, .int .i64 0, .int .i64 0, .int .i32 a1]) (ok := fun _ => True) (okp := fun _ => True) ?hr ?hp (fun _ hk => hk) trivial (Below.refl _ _) (Nat.le_refl _) (by simp) ?_; (case hd => rfl); (case hg => rfl); (case hr => exact m_14); (case hp => exact (Reps.c5 (show Kd.M k32 _ _ _ (⟨19, a0, 0, 0, a1⟩ : S32) [.int .i64 19, .int .i64 a0, .int .i64 0, .int .i64 0, .int .i32 a1] from (k32_mkM _ _ _ (⟨19, a0, 0, 0, a1⟩ : S32) )) (Reps.none _ _))); intro v191 w9 ho10 hb hg_ hnew_; clear hg_ hnew_; (first | rw [← Ny190.out] at ho10 | (simp only [Int.reduceToNat] at ho10; rw [← Ny190.out] at ho10)); have n0_ := Aside0.mk (Kd.R_lower ho10 (below_size (m_0))); have n1_ := Aside0.mk (below_step (m_0) hb); clear HB; have HO192 := n0_; have HB := n1_; clear n0_ n1_; clear hb ho10))
       go_ret
       exact ⟨_, m_3, by (with_reducible repeat (first | apply Kd.R_alloc | apply Kd.R_drewN | apply Kd.R_drew)); exact HO192.out, m_0⟩
     · replace c8 := Bool.eq_false_iff.mpr c8
       subst c8
       have H1 : ((some (([(⟨42, a0, 0, 0, Go.bits .and .i32 (wrap32 (a1 + 2048)) (-4096)⟩ : S32)] : List (S32)) : List (S32))).bind fun y193 => (if (wrap32 (a1 - (Go.bits .and .i32 (wrap32 (a1 + 2048)) (-4096)))) = 0 then (some y193) else (if y193.length < 3518437208883 then (some (y193 ++ [(⟨19, a0, a0, 0, wrap32 (a1 - (Go.bits .and .i32 (wrap32 (a1 + 2048)) (-4096)))⟩ : S32)])) else (none)))) = some r := by rw [if_neg (show ¬ (false = true) by decide)] at H; exact H
       clear H
       have H := H1
       clear H1
       obtain ⟨y193, hy193⟩ : ∃ y_ : List (S32), y_ = (([(⟨42, a0, 0, 0, Go.bits .and .i32 (wrap32 (a1 + 2048)) (-4096)⟩ : S32)] : List (S32))) := ⟨_, rfl⟩
       replace H : (if (wrap32 (a1 - (Go.bits .and .i32 (wrap32 (a1 + 2048)) (-4096)))) = 0 then (some y193) else (if y193.length < 3518437208883 then (some (y193 ++ [(⟨19, a0, a0, 0, wrap32 (a1 - (Go.bits .and .i32 (wrap32 (a1 + 2048)) (-4096)))⟩ : S32)])) else (none))) = some r := by first | (rw [hy193]; with_reducible exact H) | (have H2_ := (Option.bind_some _ _).symm.trans H; rw [hy193]; with_reducible exact H2_) | (have H2_ := (Option.bind_some _ _).symm.trans H; with_reducible exact H2_) | with_reducible exact H | (rw [hy193]; exact H) | exact H
       have Ny193 := Aside0.mk hy193
       clear hy193
       by_cases c11 : (wrap32 (a1 - (Go.bits .and .i32 (wrap32 (a1 + 2048)) (-4096)))) = 0
       · rw [if_pos c11] at H
         have c11b0 : ((wrap32 (a1 - (Go.bits .and .i32 (wrap32 (a1 + 2048)) (-4096)))) == 0) = true := beq_iff_eq.mpr c11
         have c11b1 : ((wrap32 (a1 - (Go.bits .and .i32 (wrap32 (a1 + 2048)) (-4096)))) != 0) = false := bne_eq_false_iff_eq.mpr c11
         clear c11
         obtain rfl := Option.some.inj H
         go_wp2_with (first | ((with_reducible refine gate_callee (f := 51) rfl ?_); refine goesL_ (some 16) rfl rfl Try.func51 (by kernel_rfl) rfl #[.int .i32 a1] rfl (m_8) ?_; (with_reducible refine (pseudo_short.calls a1 false _ A7.out).mono ?_); rintro e w' ⟨rfl, ⟨nd, rfl⟩⟩; refine ⟨_, rfl, ?_⟩) | ((with_reducible refine gate_dst (N := 27) rfl ?_); refine Kd.R_lit k32 _ 32 ?hg (N := 27) ?hd (xs := ([(⟨42, a0, 0, 0, Go.bits .and .i32 (wrap32 (a1 + 2048)) (-4096)⟩ : S32)] : List (S32))) (inner := [.int .i64 42, .int .i64 a0, .int .i64 0, .int .i64 0, .int .i32 (Go.bits .and .i32 (wrap32 (a1 + 2048)) (-4096))]) (ok := fun _ => True) (okp := fun _ => True) ?hr ?hp (fun _ hk => hk) trivial (Below.refl _ _) (Nat.le_refl _) (by simp) ?_; (case hd => rfl); (case hg => rfl); (case hr => exact m_14); (case hp => exact (Reps.c5 (show Kd.M k32 _ _ _ (⟨42, a0, 0, 0, Go.bits .and .i32 (wrap32 (a1 + 2048)) (-4096)⟩ : S32) [.int .i64 42, .int .i64 a0, .int .i64 0, .int .i64 0, .int .i32 (Go.bits .and .i32 (wrap32 (a1 + 2048)) (-4096))] from (k32_mkM _ _ _ (⟨42, a0, 0, 0, Go.bits .and .i32 (wrap32 (a1 + 2048)) (-4096)⟩ : S32) )) (Reps.none _ _))); intro v194 w12 ho13 hb hg_ hnew_; clear hg_ hnew_; (first | rw [← Ny193.out] at ho13 | (simp only [Int.reduceToNat] at ho13; rw [← Ny193.out] at ho13)); have n0_ := Aside0.mk (Kd.R_lower ho13 (below_size (m_0))); have n1_ := Aside0.mk (below_step (m_0) hb); clear HB; have HO195 := n0_; have HB := n1_; clear n0_ n1_; clear hb ho13))
         go_ret
         exact ⟨_, m_3, by (with_reducible repeat (first | apply Kd.R_alloc | apply Kd.R_drewN | apply Kd.R_drew)); exact HO195.out, m_0⟩
       · rw [if_neg c11] at H
         have c11b0 : ((wrap32 (a1 - (Go.bits .and .i32 (wrap32 (a1 + 2048)) (-4096)))) == 0) = false := beq_eq_false_iff_ne.mpr c11
         have c11b1 : ((wrap32 (a1 - (Go.bits .and .i32 (wrap32 (a1 + 2048)) (-4096)))) != 0) = true := bne_iff_ne.mpr c11
         by_cases c14 : y193.length < 3518437208883
         · rw [if_pos c14] at H
           have LMc14 := Aside0.mk c14
           clear c14
           obtain ⟨y196, hy196⟩ : ∃ y_ : List (S32), y_ = (y193 ++ [(⟨19, a0, a0, 0, wrap32 (a1 - (Go.bits .and .i32 (wrap32 (a1 + 2048)) (-4096)))⟩ : S32)]) := ⟨_, rfl⟩
           replace H : (some y196) = some r := by first | (rw [hy196]; with_reducible exact H) | (have H2_ := (Option.bind_some _ _).symm.trans H; rw [hy196]; with_reducible exact H2_) | (have H2_ := (Option.bind_some _ _).symm.trans H; with_reducible exact H2_) | with_reducible exact H | (rw [hy196]; exact H) | exact H
           have Ny196 := Aside0.mk hy196
           clear hy196
           obtain rfl := Option.some.inj H
           go_wp2_with (first | ((with_reducible refine gate_callee (f := 51) rfl ?_); refine goesL_ (some 16) rfl rfl Try.func51 (by kernel_rfl) rfl #[.int .i32 a1] rfl (m_8) ?_; (with_reducible refine (pseudo_short.calls a1 false _ A7.out).mono ?_); rintro e w' ⟨rfl, ⟨nd, rfl⟩⟩; refine ⟨_, rfl, ?_⟩) | ((with_reducible refine gate_dst (N := 27) rfl ?_); refine Kd.R_lit k32 _ 32 ?hg (N := 27) ?hd (xs := ([(⟨42, a0, 0, 0, Go.bits .and .i32 (wrap32 (a1 + 2048)) (-4096)⟩ : S32)] : List (S32))) (inner := [.int .i64 42, .int .i64 a0, .int .i64 0, .int .i64 0, .int .i32 (Go.bits .and .i32 (wrap32 (a1 + 2048)) (-4096))]) (ok := fun _ => True) (okp := fun _ => True) ?hr ?hp (fun _ hk => hk) trivial (Below.refl _ _) (Nat.le_refl _) (by simp) ?_; (case hd => rfl); (case hg => rfl); (case hr => exact m_14); (case hp => exact (Reps.c5 (show Kd.M k32 _ _ _ (⟨42, a0, 0, 0, Go.bits .and .i32 (wrap32 (a1 + 2048)) (-4096)⟩ : S32) [.int .i64 42, .int .i64 a0, .int .i64 0, .int .i64 0, .int .i32 (Go.bits .and .i32 (wrap32 (a1 + 2048)) (-4096))] from (k32_mkM _ _ _ (⟨42, a0, 0, 0, Go.bits .and .i32 (wrap32 (a1 + 2048)) (-4096)⟩ : S32) )) (Reps.none _ _))); intro v194 w15 ho16 hb hg_ hnew_; clear hg_ hnew_; (first | rw [← Ny193.out] at ho16 | (simp only [Int.reduceToNat] at ho16; rw [← Ny193.out] at ho16)); have n0_ := Aside0.mk (Kd.R_lower ho16 (below_size (m_0))); have n1_ := Aside0.mk (below_step (m_0) hb); clear HB; have HO195 := n0_; have HB := n1_; clear n0_ n1_; clear hb ho16) | ((with_reducible refine gate_builtin (b := .append) (xs := #[.tmp 33, .tmp 38]) rfl ?_); at_builtin; refine Kd.R_append k32 (w0 := w) w.heap.size rfl (.tmp 33) (.tmp 38) 56 32 (.agg #[(.int .i64 0), (.int .i64 0), (.int .i64 0), (.int .i64 0), (.int .i32 0)]) 40 rfl Try.underlying56 info32 rfl (by decide) (by omega) v194 y193 (⟨19, a0, a0, 0, wrap32 (a1 - (Go.bits .and .i32 (wrap32 (a1 + 2048)) (-4096)))⟩ : S32) [.int .i64 19, .int .i64 a0, .int .i64 a0, .int .i64 0, .int .i32 (wrap32 (a1 - (Go.bits .and .i32 (wrap32 (a1 + 2048)) (-4096))))] (fun _ => True) (fun _ => False) rfl rfl ?aP (fun _ hk => hk.elim) ?aF ?aO ?aB ?aS ?aL ?_; (case aP => exact k32_mkM _ _ _ (⟨19, a0, a0, 0, wrap32 (a1 - (Go.bits .and .i32 (wrap32 (a1 + 2048)) (-4096)))⟩ : S32)); (case aB => exact (m_0)); (case aF => exact (fun _ _ => trivial)); (case aO => exact (by (with_reducible repeat (first | apply Kd.R_alloc | apply Kd.R_drewN | apply Kd.R_drew)); exact HO195.out)); (case aS => exact (below_size (m_0))); (case aL => have := LMc14.out; omega); intro v197 w17 ho hb hg hat; rw [← Ny196.out] at ho; have n0_ := Aside0.mk (hb); have n1_ := Aside0.mk (ho); clear HB; clear HO195; have HB := n0_; have HO198 := n1_; clear n0_ n1_; clear ho hb hg hat))
           go_ret
           exact ⟨_, m_3, by (with_reducible repeat (first | apply Kd.R_alloc | apply Kd.R_drewN | apply Kd.R_drew)); exact HO198.out, m_0⟩
         · rw [if_neg c14] at H
           exact absurd H (by simp)
end Go.Proofs.Ytihecimbhhlhaaa.PRs
end
section
namespace Go.Proofs.Ytihecimbhhlhaaa.PRs
open Go.RowKit Go.Proofs.YtihecimbhhlhaaaW.PrintWords Go.Proofs.YtihecimbhhlhaaaW.PrintLast Go.Proofs.YtihecimbhhlhaaaW.PrintMore
set_option linter.unusedVariables false
set_option linter.unusedSimpArgs false
attribute [local go_sem high] eqA32
/-! ### pSet: function 37 -/
def pSet.f (k : Nat) (a0 : Int) (a1 : Int) : Option ((List (S32))) := (pset.f k a0 a1).bind fun t199 => (some t199)
set_option maxHeartbeats 8000000 in
set_option maxRecDepth 100000 in
theorem pSet.calls (k : Nat) (a0 : Int) (a1 : Int) (r : List (S32)) (w : World) (h : pSet.f k a0 a1 = some r) :
 Calls Try.prog 37 #[.int .i64 a0, .int .i32 a1] w fun e w' => ∃ v0_ : Value, e = .returned (v0_) ∧ Kd.R k32 32 w' w.heap.size (fun _ => True) v0_ r ∧ Below w.heap.size w w' := by
 have HB := Aside0.mk (Below.refl w.heap.size w)
 have H : ((pset.f k a0 a1).bind fun t199 => (some t199)) = some r := h
 clear h
 replace H := Option.bind_eq_some_iff.mp H
 obtain ⟨t199, A30, H⟩ := H
 replace H : (some t199) = some r := H
 have A3 := Aside0.mk A30
 clear A30
 obtain rfl := Option.some.inj H
 go_enter Try.func37, Try.ntmps37
 go_wp2_with (first | ((with_reducible refine gate_callee (f := 46) rfl ?_); refine goesL_ (some 7) rfl rfl Try.func46 (by kernel_rfl) rfl #[.int .i64 a0, .int .i32 a1] rfl (m_8) ?_; (with_reducible refine (pset.calls k a0 a1 t199 _ A3.out).mono ?_); rintro e w4 ⟨v200, rfl, ho0, hb⟩; refine ⟨_, rfl, ?_⟩; have n0_ := Aside0.mk (Kd.R_lower ho0 (below_size (m_0))); have n1_ := Aside0.mk (below_step (m_0) hb); clear HB; have HO201 := n0_; have HB := n1_; clear n0_ n1_; (try clear hb); (try clear hb2); (try clear hk); (try clear hi); (try clear ho0)))
 go_ret
 exact ⟨_, m_3, by (with_reducible repeat (first | apply Kd.R_alloc | apply Kd.R_drewN | apply Kd.R_drew)); exact HO201.out, m_0⟩
end Go.Proofs.Ytihecimbhhlhaaa.PRs
end
section
namespace Go.Proofs.Ytihecimbhhlhaaa.PRs
open Go.RowKit Go.Proofs.YtihecimbhhlhaaaW.PrintWords Go.Proofs.YtihecimbhhlhaaaW.PrintLast Go.Proofs.YtihecimbhhlhaaaW.PrintMore
set_option linter.unusedVariables false
set_option linter.unusedSimpArgs false
/-! ### pTu: function 39 -/
def pTu.j0 : Nat → Int → Int → Bool → Option (Int)
 | 0, _, _, _ => none
 | k + 1, x0, x3, x4 => if x4 = true then (some (wrap64 (x0 + 1))) else (if x3 = 37 then (some (wrap64 (x0 - 1))) else (if x3 = 39 then (some (wrap64 (x0 - 1))) else (if x3 = 41 then (some (wrap64 (x0 - 1))) else (some 0))))
def pTu.f (k : Nat) (a0 : Int) : Option (Int) := if a0 = 36 then (pTu.j0 k a0 a0 (a0 == 36)) else (if a0 = 38 then (pTu.j0 k a0 a0 (a0 == 38)) else (pTu.j0 k a0 a0 (a0 == 40)))
set_option maxHeartbeats 8000000 in
set_option maxRecDepth 100000 in
theorem pTu.calls (k : Nat) (a0 : Int) (r : Int) (w : World) (h : pTu.f k a0 = some r) :
 Calls Try.prog 39 #[.int .i64 a0] w fun e w' => e = .returned (.int .i64 r) ∧ Drawn0 w w' := by
 have H : (if a0 = 36 then (pTu.j0 k a0 a0 (a0 == 36)) else (if a0 = 38 then (pTu.j0 k a0 a0 (a0 == 38)) else (pTu.j0 k a0 a0 (a0 == 40)))) = some r := h
 clear h
 have HC2 := Aside0.mk H
 clear H
 go_enter Try.func39, Try.ntmps39
 go_upto_if 4 with (fail)
 go_cut [4] (fun v4 wc => ∃ (kq : Nat) (x4_1 : Bool), v4 = .bool x4_1 ∧ Aside0 (pTu.j0 kq a0 a0 x4_1 = some r) ∧ Aside0 (kq ≤ k) ∧ Drawn0 w wc)
 case first =>
  have H := HC2.out
  clear HC2
  by_cases c3 : a0 = 36
  · rw [if_pos c3] at H
    have c3b0 : (a0 == 36) = true := beq_iff_eq.mpr c3
    have c3b1 : (a0 != 36) = false := bne_eq_false_iff_eq.mpr c3
    clear c3
    (first | rw [c3b0] | (simp only [i64_w, i32_w]; rw [c3b0]) | skip)
    have H' := Aside0.mk H
    clear H
    go_wp2
    go_meet
    case rel => exact ⟨_, ((a0 == 36)), (m_5), H', ⟨m_45⟩, m_19⟩
  · rw [if_neg c3] at H
    have c3b0 : (a0 == 36) = false := beq_eq_false_iff_ne.mpr c3
    have c3b1 : (a0 != 36) = true := bne_iff_ne.mpr c3
    (first | rw [c3b0] | (simp only [i64_w, i32_w]; rw [c3b0]) | skip)
    by_cases c4 : a0 = 38
    · rw [if_pos c4] at H
      have c4b0 : (a0 == 38) = true := beq_iff_eq.mpr c4
      have c4b1 : (a0 != 38) = false := bne_eq_false_iff_eq.mpr c4
      clear c4
      have H' := Aside0.mk H
      clear H
      go_wp2
      go_meet
      case rel => exact ⟨_, ((a0 == 38)), (m_5), H', ⟨m_45⟩, m_19⟩
    · rw [if_neg c4] at H
      have c4b0 : (a0 == 38) = false := beq_eq_false_iff_ne.mpr c4
      have c4b1 : (a0 != 38) = true := bne_iff_ne.mpr c4
      have H' := Aside0.mk H
      clear H
      go_wp2
      go_meet
      case rel => exact ⟨_, ((a0 == 40)), (m_5), H', ⟨m_45⟩, m_19⟩
 case rest =>
  clear HC2
  obtain ⟨kq, x4_1, rfl, HA, HJ1, ⟨mc1, rfl⟩⟩ := hcut
  cases kq with
  | zero => exact absurd HA.out (by simp [pTu.j0])
  | succ kj1 =>
   have H := HA.out
   clear HA
   simp only [pTu.j0] at H
   by_cases c5 : x4_1 = true
   · subst c5
     have H1 : (some (wrap64 (a0 + 1))) = some r := by rw [if_pos rfl] at H; exact H
     clear H
     have H := H1
     clear H1
     obtain rfl := Option.some.inj H
     go_wp2
     go_ret
     exact ⟨m_5, m_19⟩
   · replace c5 := Bool.eq_false_iff.mpr c5
     subst c5
     have H1 : (if a0 = 37 then (some (wrap64 (a0 - 1))) else (if a0 = 39 then (some (wrap64 (a0 - 1))) else (if a0 = 41 then (some (wrap64 (a0 - 1))) else (some 0)))) = some r := by rw [if_neg (show ¬ (false = true) by decide)] at H; exact H
     clear H
     have H := H1
     clear H1
     by_cases c6 : a0 = 37
     · rw [if_pos c6] at H
       have c6b0 : (a0 == 37) = true := beq_iff_eq.mpr c6
       have c6b1 : (a0 != 37) = false := bne_eq_false_iff_eq.mpr c6
       clear c6
       obtain rfl := Option.some.inj H
       go_wp2
       go_ret
       exact ⟨m_5, m_19⟩
     · rw [if_neg c6] at H
       have c6b0 : (a0 == 37) = false := beq_eq_false_iff_ne.mpr c6
       have c6b1 : (a0 != 37) = true := bne_iff_ne.mpr c6
       by_cases c7 : a0 = 39
       · rw [if_pos c7] at H
         have c7b0 : (a0 == 39) = true := beq_iff_eq.mpr c7
         have c7b1 : (a0 != 39) = false := bne_eq_false_iff_eq.mpr c7
         clear c7
         obtain rfl := Option.some.inj H
         go_wp2
         go_ret
         exact ⟨m_5, m_19⟩
       · rw [if_neg c7] at H
         have c7b0 : (a0 == 39) = false := beq_eq_false_iff_ne.mpr c7
         have c7b1 : (a0 != 39) = true := bne_iff_ne.mpr c7
         by_cases c8 : a0 = 41
         · rw [if_pos c8] at H
           have c8b0 : (a0 == 41) = true := beq_iff_eq.mpr c8
           have c8b1 : (a0 != 41) = false := bne_eq_false_iff_eq.mpr c8
           clear c8
           obtain rfl := Option.some.inj H
           go_wp2
           go_ret
           exact ⟨m_5, m_19⟩
         · rw [if_neg c8] at H
           have c8b0 : (a0 == 41) = false := beq_eq_false_iff_ne.mpr c8
           have c8b1 : (a0 != 41) = true := bne_iff_ne.mpr c8
           obtain rfl := Option.some.inj H
           go_wp2
           go_ret
           exact ⟨m_5, m_19⟩
-- NOT PRINTED: function 25 (asm_laid_item)
end Go.Proofs.Ytihecimbhhlhaaa.PRs
end
