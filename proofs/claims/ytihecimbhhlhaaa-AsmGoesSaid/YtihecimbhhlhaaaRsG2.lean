/- RsNumSigned, RsNumSext, RsImmMask, RsImmPieces, RsImmGet, RsImmPut, RsInstFits: texts put together. -/
import Derived.Test.YtihecimbhhlhaaaRsG1
import Derived.Test.YtihecimbhhlhaaaRsMc
section
namespace Go.Proofs.Ytihecimbhhlhaaa.PRs
open Go.RowKit Go.Proofs.YtihecimbhhlhaaaW.PrintWords Go.Proofs.YtihecimbhhlhaaaW.PrintLast Go.Proofs.YtihecimbhhlhaaaW.PrintMore
set_option linter.unusedVariables false
set_option linter.unusedSimpArgs false
/-! ### num_Signed: function 57 -/
def num_Signed.f (a0 : Int) : Option (Int) := some (wrap32 (a0))
set_option maxHeartbeats 8000000 in
set_option maxRecDepth 100000 in
theorem num_Signed.calls (a0 : Int) (r : Int) (w : World) (h : num_Signed.f a0 = some r) :
 Calls Try.prog 57 #[.int .u32 a0] w fun e w' => e = .returned (.int .i32 r) ∧ Drawn0 w w' := by
 have H : (some (wrap32 (a0))) = some r := h
 clear h
 obtain rfl := Option.some.inj H
 go_enter Try.func57, Try.ntmps57
 go_wp2
 go_ret
 exact ⟨m_5, m_19⟩
end Go.Proofs.Ytihecimbhhlhaaa.PRs
end
section
namespace Go.Proofs.Ytihecimbhhlhaaa.PRs
open Go.RowKit Go.Proofs.YtihecimbhhlhaaaW.PrintWords Go.Proofs.YtihecimbhhlhaaaW.PrintLast Go.Proofs.YtihecimbhhlhaaaW.PrintMore
set_option linter.unusedVariables false
set_option linter.unusedSimpArgs false
/-! ### num_Sext: function 58 -/
def num_Sext.f (a0 : Int) (a1 : Int) : Option (Int) := if a1 < 1 then (some 0) else (if a1 ≥ 32 then (some a0) else (if 0 ≤ (wrap64 (32 - a1)) then (some ((shr .i32 (wrap32 (shl .u32 a0 (wrap64 (32 - a1)))) (wrap64 (32 - a1))) % 4294967296)) else (none)))
set_option maxHeartbeats 8000000 in
set_option maxRecDepth 100000 in
theorem num_Sext.calls (a0 : Int) (a1 : Int) (r : Int) (w : World) (h : num_Sext.f a0 a1 = some r) :
 Calls Try.prog 58 #[.int .u32 a0, .int .i64 a1] w fun e w' => e = .returned (.int .u32 r) ∧ Drawn0 w w' := by
 have H : (if a1 < 1 then (some 0) else (if a1 ≥ 32 then (some a0) else (if 0 ≤ (wrap64 (32 - a1)) then (some ((shr .i32 (wrap32 (shl .u32 a0 (wrap64 (32 - a1)))) (wrap64 (32 - a1))) % 4294967296)) else (none)))) = some r := h
 clear h
 by_cases c3 : a1 < 1
 · rw [if_pos c3] at H
   have c3b0 : decide (a1 < 1) = true := decide_eq_true c3
   clear c3
   obtain rfl := Option.some.inj H
   go_enter Try.func58, Try.ntmps58
   go_wp2
   go_ret
   exact ⟨m_5, m_19⟩
 · rw [if_neg c3] at H
   have c3b0 : decide (a1 < 1) = false := decide_eq_false c3
   clear c3
   by_cases c4 : a1 ≥ 32
   · rw [if_pos c4] at H
     have c4b0 : decide (32 ≤ a1) = true := decide_eq_true c4
     clear c4
     obtain rfl := Option.some.inj H
     go_enter Try.func58, Try.ntmps58
     go_wp2
     go_ret
     exact ⟨m_5, m_19⟩
   · rw [if_neg c4] at H
     have c4b0 : decide (32 ≤ a1) = false := decide_eq_false c4
     clear c4
     obtain ⟨ji5, hji5⟩ : ∃ j_ : Int, (wrap64 (32 - a1)) = j_ := ⟨_, rfl⟩
     replace H : (if 0 ≤ (ji5) then (some ((shr .i32 (wrap32 (shl .u32 a0 (ji5))) (ji5)) % 4294967296)) else (none)) = some r := by first | (rw [hji5] at H; exact H) | (simp only [hji5] at H ⊢; exact H)
     have hji5w : (IntKind.i64.wrap (32 - a1)) = ji5 := (i64_w _).trans hji5
     by_cases c6 : 0 ≤ (ji5)
     · rw [if_pos c6] at H
       have c6b0 := eq_true c6
       have c6b1 : decide (0 ≤ (ji5)) = true := decide_eq_true c6
       clear c6
       obtain ⟨ji7, hji7⟩ : ∃ j_ : Int, (shl .u32 a0 (ji5)) = j_ := ⟨_, rfl⟩
       replace H : (some ((shr .i32 (wrap32 (ji7)) (ji5)) % 4294967296)) = some r := by first | (rw [hji7] at H; exact H) | (simp only [hji7] at H ⊢; exact H)
       have hji7_ : (IntKind.u32.wrap (a0 * 2 ^ min (ji5).toNat 32)) = ji7 := hji7
       have hji7z : (ji5) ≤ 32 → (IntKind.u32.wrap (a0 * 2 ^ (ji5).toNat)) = ji7 := shl_small hji7
       have c8b0 := eq_true (of_decide_eq_true (m_1) : 0 ≤ (ji5))
       obtain ⟨ji9, hji9⟩ : ∃ j_ : Int, (shr .i32 (wrap32 (ji7)) (ji5)) = j_ := ⟨_, rfl⟩
       replace H : (some ((ji9) % 4294967296)) = some r := by first | (rw [hji9] at H; exact H) | (simp only [hji9] at H ⊢; exact H)
       have hji9_ : ((wrap32 (ji7)) / 2 ^ min (ji5).toNat 32) = ji9 := hji9
       have hji9z : (ji5) ≤ 32 → ((wrap32 (ji7)) / 2 ^ (ji5).toNat) = ji9 := shr_small hji9
       obtain rfl := Option.some.inj H
       go_enter Try.func58, Try.ntmps58
       go_wp2
       go_ret
       exact ⟨by first | rfl | (simp; done) | (simp only [← hji5, ← hji7, ← hji9] <;> (first | rfl | simp)) | (simp [*]; done), m_19⟩
     · rw [if_neg c6] at H
       exact absurd H (by simp)
end Go.Proofs.Ytihecimbhhlhaaa.PRs
end
section
namespace Go.Proofs.Ytihecimbhhlhaaa.PRs
open Go.RowKit Go.Proofs.YtihecimbhhlhaaaW.PrintWords Go.Proofs.YtihecimbhhlhaaaW.PrintLast Go.Proofs.YtihecimbhhlhaaaW.PrintMore
set_option linter.unusedVariables false
set_option linter.unusedSimpArgs false
/-! ### imm_mask: function 55 -/
def imm_mask.f (a0 : Int) : Option (Int) := if 0 ≤ a0 then (some (((shl .u32 1 a0) - 1) % 4294967296)) else (none)
set_option maxHeartbeats 8000000 in
set_option maxRecDepth 100000 in
theorem imm_mask.calls (a0 : Int) (r : Int) (w : World) (h : imm_mask.f a0 = some r) :
 Calls Try.prog 55 #[.int .i64 a0] w fun e w' => e = .returned (.int .u32 r) ∧ Drawn0 w w' := by
 have H : (if 0 ≤ a0 then (some (((shl .u32 1 a0) - 1) % 4294967296)) else (none)) = some r := h
 clear h
 by_cases c2 : 0 ≤ a0
 · rw [if_pos c2] at H
   have c2b0 := eq_true c2
   have c2b1 : decide (0 ≤ a0) = true := decide_eq_true c2
   clear c2
   obtain ⟨ji3, hji3⟩ : ∃ j_ : Int, (shl .u32 1 a0) = j_ := ⟨_, rfl⟩
   replace H : (some (((ji3) - 1) % 4294967296)) = some r := by first | (rw [hji3] at H; exact H) | (simp only [hji3] at H ⊢; exact H)
   have hji3_ : (IntKind.u32.wrap (1 * 2 ^ min a0.toNat 32)) = ji3 := hji3
   have hji3z : a0 ≤ 32 → (IntKind.u32.wrap (1 * 2 ^ a0.toNat)) = ji3 := shl_small hji3
   have hji3u : (IntKind.u32.wrap (2 ^ min a0.toNat 32)) = ji3 := by have h_ := hji3_; rw [Int.one_mul] at h_; exact h_
   have hji3v : a0 ≤ 32 → (IntKind.u32.wrap (2 ^ a0.toNat)) = ji3 := fun hle_ => by have h_ := hji3z hle_; rw [Int.one_mul] at h_; exact h_
   obtain rfl := Option.some.inj H
   go_enter Try.func55, Try.ntmps55
   go_wp2
   go_ret
   exact ⟨by first | rfl | (simp; done) | (simp only [← hji3] <;> (first | rfl | simp)) | (simp [*]; done), m_19⟩
 · rw [if_neg c2] at H
   exact absurd H (by simp)
end Go.Proofs.Ytihecimbhhlhaaa.PRs
end
section
namespace Go.Proofs.Ytihecimbhhlhaaa.PRs
open Go.RowKit Go.Proofs.YtihecimbhhlhaaaW.PrintWords Go.Proofs.YtihecimbhhlhaaaW.PrintLast Go.Proofs.YtihecimbhhlhaaaW.PrintMore
set_option linter.unusedVariables false
set_option linter.unusedSimpArgs false
/-! ### imm_pieces: function 54 -/
def imm_pieces.f (a0 : Int) : Option ((List (S98)) × Int) := if a0 = 1 then (some ((([(⟨20, 12, 0⟩ : S98)] : List (S98))), 12)) else (if a0 = 2 then (some ((([(⟨25, 7, 5⟩ : S98), (⟨7, 5, 0⟩ : S98)] : List (S98))), 12)) else (if a0 = 3 then (some ((([(⟨31, 1, 12⟩ : S98), (⟨7, 1, 11⟩ : S98), (⟨25, 6, 5⟩ : S98), (⟨8, 4, 1⟩ : S98)] : List (S98))), 13)) else (if a0 = 4 then (some ((([(⟨12, 20, 12⟩ : S98)] : List (S98))), 32)) else (if a0 = 5 then (some ((([(⟨31, 1, 20⟩ : S98), (⟨12, 8, 12⟩ : S98), (⟨20, 1, 11⟩ : S98), (⟨21, 10, 1⟩ : S98)] : List (S98))), 21)) else (some (([] : List (S98)), 0))))))
set_option maxHeartbeats 8000000 in
set_option maxRecDepth 100000 in
theorem imm_pieces.calls (a0 : Int) (r1 : List (S98)) (r2 : Int) (w : World) (h : imm_pieces.f a0 = some (r1, r2)) :
 Calls Try.prog 54 #[.int .i64 a0] w fun e w' => ∃ v0_ : Value, e = .returned (.tuple #[v0_, .int .i64 r2]) ∧ Kd.R k98 98 w' w.heap.size (fun _ => True) v0_ r1 ∧ Below w.heap.size w w' := by
 have hu98 := Try.underlying98
 have HB := Aside0.mk (Below.refl w.heap.size w)
 have H : (if a0 = 1 then (some ((([(⟨20, 12, 0⟩ : S98)] : List (S98))), 12)) else (if a0 = 2 then (some ((([(⟨25, 7, 5⟩ : S98), (⟨7, 5, 0⟩ : S98)] : List (S98))), 12)) else (if a0 = 3 then (some ((([(⟨31, 1, 12⟩ : S98), (⟨7, 1, 11⟩ : S98), (⟨25, 6, 5⟩ : S98), (⟨8, 4, 1⟩ : S98)] : List (S98))), 13)) else (if a0 = 4 then (some ((([(⟨12, 20, 12⟩ : S98)] : List (S98))), 32)) else (if a0 = 5 then (some ((([(⟨31, 1, 20⟩ : S98), (⟨12, 8, 12⟩ : S98), (⟨20, 1, 11⟩ : S98), (⟨21, 10, 1⟩ : S98)] : List (S98))), 21)) else (some (([] : List (S98)), 0))))))) = some (r1, r2) := h
 clear h
 by_cases c2 : a0 = 1
 · rw [if_pos c2] at H
   have c2b0 : (a0 == 1) = true := beq_iff_eq.mpr c2
   have c2b1 : (a0 != 1) = false := bne_eq_false_iff_eq.mpr c2
   clear c2
   obtain ⟨y131, hy_⟩ : ∃ y_ : List (S98), y_ = (([(⟨20, 12, 0⟩ : S98)] : List (S98))) := ⟨_, rfl⟩
   replace H : (some (y131, 12)) = some (r1, r2) := q_2
   have Ny131 := Aside0.mk hy_
   clear hy_
   simp only [Option.some.injEq, Prod.mk.injEq] at H
   obtain ⟨rfl, rfl⟩ := H
   go_enter Try.func54, Try.ntmps54
   go_wp2_with (first | ((with_reducible refine gate_dst (N := 8) rfl ?_); refine Kd.R_lit k98 _ 98 ?hg (N := 8) ?hd (xs := ([(⟨20, 12, 0⟩ : S98)] : List (S98))) (inner := [.int .i64 20, .int .i64 12, .int .i64 0]) (ok := fun _ => True) (okp := fun _ => True) ?hr ?hp (fun _ hk => hk) trivial (Below.refl _ _) (Nat.le_refl _) (by simp) ?_; (case hd => rfl); (case hg => rfl); (case hr => exact m_14); (case hp => exact (Reps.c3 (show Kd.M k98 _ _ _ (⟨20, 12, 0⟩ : S98) [.int .i64 20, .int .i64 12, .int .i64 0] from (k98_mkM _ _ _ (⟨20, 12, 0⟩ : S98) )) (Reps.none _ _))); intro v132 w3 ho4 hb hg_ hnew_; clear hg_ hnew_; (first | rw [← Ny131.out] at ho4 | (simp only [Int.reduceToNat] at ho4; rw [← Ny131.out] at ho4)); have n0_ := Aside0.mk (Kd.R_lower ho4 (below_size (m_0))); have n1_ := Aside0.mk (below_step (m_0) hb); clear HB; have HO133 := n0_; have HB := n1_; clear n0_ n1_; clear hb ho4))
   go_ret2
   exact ⟨_, m_3, by (with_reducible repeat (first | apply Kd.R_alloc | apply Kd.R_drewN | apply Kd.R_drew)); exact HO133.out, m_0⟩
 · rw [if_neg c2] at H
   have c2b0 : (a0 == 1) = false := beq_eq_false_iff_ne.mpr c2
   have c2b1 : (a0 != 1) = true := bne_iff_ne.mpr c2
   by_cases c5 : a0 = 2
   · rw [if_pos c5] at H
     have c5b0 : (a0 == 2) = true := beq_iff_eq.mpr c5
     have c5b1 : (a0 != 2) = false := bne_eq_false_iff_eq.mpr c5
     clear c5
     obtain ⟨y134, hy_⟩ : ∃ y_ : List (S98), y_ = (([(⟨25, 7, 5⟩ : S98), (⟨7, 5, 0⟩ : S98)] : List (S98))) := ⟨_, rfl⟩
     replace H : (some (y134, 12)) = some (r1, r2) := q_2
     have Ny134 := Aside0.mk hy_
     clear hy_
     simp only [Option.some.injEq, Prod.mk.injEq] at H
     obtain ⟨rfl, rfl⟩ := H
     go_enter Try.func54, Try.ntmps54
     go_wp2_with (first | ((with_reducible refine gate_dst (N := 13) rfl ?_); refine Kd.R_lit k98 _ 98 ?hg (N := 13) ?hd (xs := ([(⟨25, 7, 5⟩ : S98), (⟨7, 5, 0⟩ : S98)] : List (S98))) (inner := [.int .i64 25, .int .i64 7, .int .i64 5, .int .i64 7, .int .i64 5, .int .i64 0]) (ok := fun _ => True) (okp := fun _ => True) ?hr ?hp (fun _ hk => hk) trivial (Below.refl _ _) (Nat.le_refl _) (by simp) ?_; (case hd => rfl); (case hg => rfl); (case hr => exact m_14); (case hp => exact (Reps.c3 (show Kd.M k98 _ _ _ (⟨25, 7, 5⟩ : S98) [.int .i64 25, .int .i64 7, .int .i64 5] from (k98_mkM _ _ _ (⟨25, 7, 5⟩ : S98) )) (Reps.c3 (show Kd.M k98 _ _ _ (⟨7, 5, 0⟩ : S98) [.int .i64 7, .int .i64 5, .int .i64 0] from (k98_mkM _ _ _ (⟨7, 5, 0⟩ : S98) )) (Reps.none _ _)))); intro v135 w6 ho7 hb hg_ hnew_; clear hg_ hnew_; (first | rw [← Ny134.out] at ho7 | (simp only [Int.reduceToNat] at ho7; rw [← Ny134.out] at ho7)); have n0_ := Aside0.mk (Kd.R_lower ho7 (below_size (m_0))); have n1_ := Aside0.mk (below_step (m_0) hb); clear HB; have HO136 := n0_; have HB := n1_; clear n0_ n1_; clear hb ho7))
     go_ret2
     exact ⟨_, m_3, by (with_reducible repeat (first | apply Kd.R_alloc | apply Kd.R_drewN | apply Kd.R_drew)); exact HO136.out, m_0⟩
   · rw [if_neg c5] at H
     have c5b0 : (a0 == 2) = false := beq_eq_false_iff_ne.mpr c5
     have c5b1 : (a0 != 2) = true := bne_iff_ne.mpr c5
     by_cases c8 : a0 = 3
     · rw [if_pos c8] at H
       have c8b0 : (a0 == 3) = true := beq_iff_eq.mpr c8
       have c8b1 : (a0 != 3) = false := bne_eq_false_iff_eq.mpr c8
       clear c8
       obtain ⟨y137, hy_⟩ : ∃ y_ : List (S98), y_ = (([(⟨31, 1, 12⟩ : S98), (⟨7, 1, 11⟩ : S98), (⟨25, 6, 5⟩ : S98), (⟨8, 4, 1⟩ : S98)] : List (S98))) := ⟨_, rfl⟩
       replace H : (some (y137, 13)) = some (r1, r2) := q_2
       have Ny137 := Aside0.mk hy_
       clear hy_
       simp only [Option.some.injEq, Prod.mk.injEq] at H
       obtain ⟨rfl, rfl⟩ := H
       go_enter Try.func54, Try.ntmps54
       go_wp2_with (first | ((with_reducible refine gate_dst (N := 20) rfl ?_); refine Kd.R_lit k98 _ 98 ?hg (N := 20) ?hd (xs := ([(⟨31, 1, 12⟩ : S98), (⟨7, 1, 11⟩ : S98), (⟨25, 6, 5⟩ : S98), (⟨8, 4, 1⟩ : S98)] : List (S98))) (inner := [.int .i64 31, .int .i64 1, .int .i64 12, .int .i64 7, .int .i64 1, .int .i64 11, .int .i64 25, .int .i64 6, .int .i64 5, .int .i64 8, .int .i64 4, .int .i64 1]) (ok := fun _ => True) (okp := fun _ => True) ?hr ?hp (fun _ hk => hk) trivial (Below.refl _ _) (Nat.le_refl _) (by simp) ?_; (case hd => rfl); (case hg => rfl); (case hr => exact m_14); (case hp => exact (Reps.c3 (show Kd.M k98 _ _ _ (⟨31, 1, 12⟩ : S98) [.int .i64 31, .int .i64 1, .int .i64 12] from (k98_mkM _ _ _ (⟨31, 1, 12⟩ : S98) )) (Reps.c3 (show Kd.M k98 _ _ _ (⟨7, 1, 11⟩ : S98) [.int .i64 7, .int .i64 1, .int .i64 11] from (k98_mkM _ _ _ (⟨7, 1, 11⟩ : S98) )) (Reps.c3 (show Kd.M k98 _ _ _ (⟨25, 6, 5⟩ : S98) [.int .i64 25, .int .i64 6, .int .i64 5] from (k98_mkM _ _ _ (⟨25, 6, 5⟩ : S98) )) (Reps.c3 (show Kd.M k98 _ _ _ (⟨8, 4, 1⟩ : S98) [.int .i64 8, .int .i64 4, .int .i64 1] from (k98_mkM _ _ _ (⟨8, 4, 1⟩ : S98) )) (Reps.none _ _)))))); intro v138 w9 ho10 hb hg_ hnew_; clear hg_ hnew_; (first | rw [← Ny137.out] at ho10 | (simp only [Int.reduceToNat] at ho10; rw [← Ny137.out] at ho10)); have n0_ := Aside0.mk (Kd.R_lower ho10 (below_size (m_0))); have n1_ := Aside0.mk (below_step (m_0) hb); clear HB; have HO139 := n0_; have HB := n1_; clear n0_ n1_; clear hb ho10))
       go_ret2
       exact ⟨_, m_3, by (with_reducible repeat (first | apply Kd.R_alloc | apply Kd.R_drewN | apply Kd.R_drew)); exact HO139.out, m_0⟩
     · rw [if_neg c8] at H
       have c8b0 : (a0 == 3) = false := beq_eq_false_iff_ne.mpr c8
       have c8b1 : (a0 != 3) = true := bne_iff_ne.mpr c8
       by_cases c11 : a0 = 4
       · rw [if_pos c11] at H
         have c11b0 : (a0 == 4) = true := beq_iff_eq.mpr c11
         have c11b1 : (a0 != 4) = false := bne_eq_false_iff_eq.mpr c11
         clear c11
         obtain ⟨y140, hy_⟩ : ∃ y_ : List (S98), y_ = (([(⟨12, 20, 12⟩ : S98)] : List (S98))) := ⟨_, rfl⟩
         replace H : (some (y140, 32)) = some (r1, r2) := q_2
         have Ny140 := Aside0.mk hy_
         clear hy_
         simp only [Option.some.injEq, Prod.mk.injEq] at H
         obtain ⟨rfl, rfl⟩ := H
         go_enter Try.func54, Try.ntmps54
         go_wp2_with (first | ((with_reducible refine gate_dst (N := 24) rfl ?_); refine Kd.R_lit k98 _ 98 ?hg (N := 24) ?hd (xs := ([(⟨12, 20, 12⟩ : S98)] : List (S98))) (inner := [.int .i64 12, .int .i64 20, .int .i64 12]) (ok := fun _ => True) (okp := fun _ => True) ?hr ?hp (fun _ hk => hk) trivial (Below.refl _ _) (Nat.le_refl _) (by simp) ?_; (case hd => rfl); (case hg => rfl); (case hr => exact m_14); (case hp => exact (Reps.c3 (show Kd.M k98 _ _ _ (⟨12, 20, 12⟩ : S98) [.int .i64 12, .int .i64 20, .int .i64 12] from (k98_mkM _ _ _ (⟨12, 20, 12⟩ : S98) )) (Reps.none _ _))); intro v141 w12 ho13 hb hg_ hnew_; clear hg_ hnew_; (first | rw [← Ny140.out] at ho13 | (simp only [Int.reduceToNat] at ho13; rw [← Ny140.out] at ho13)); have n0_ := Aside0.mk (Kd.R_lower ho13 (below_size (m_0))); have n1_ := Aside0.mk (below_step (m_0) hb); clear HB; have HO142 := n0_; have HB := n1_; clear n0_ n1_; clear hb ho13))
         go_ret2
         exact ⟨_, m_3, by (with_reducible repeat (first | apply Kd.R_alloc | apply Kd.R_drewN | apply Kd.R_drew)); exact HO142.out, m_0⟩
       · rw [if_neg c11] at H
         have c11b0 : (a0 == 4) = false := beq_eq_false_iff_ne.mpr c11
         have c11b1 : (a0 != 4) = true := bne_iff_ne.mpr c11
         by_cases c14 : a0 = 5
         · rw [if_pos c14] at H
           have c14b0 : (a0 == 5) = true := beq_iff_eq.mpr c14
           have c14b1 : (a0 != 5) = false := bne_eq_false_iff_eq.mpr c14
           clear c14
           obtain ⟨y143, hy_⟩ : ∃ y_ : List (S98), y_ = (([(⟨31, 1, 20⟩ : S98), (⟨12, 8, 12⟩ : S98), (⟨20, 1, 11⟩ : S98), (⟨21, 10, 1⟩ : S98)] : List (S98))) := ⟨_, rfl⟩
           replace H : (some (y143, 21)) = some (r1, r2) := q_2
           have Ny143 := Aside0.mk hy_
           clear hy_
           simp only [Option.some.injEq, Prod.mk.injEq] at H
           obtain ⟨rfl, rfl⟩ := H
           go_enter Try.func54, Try.ntmps54
           go_wp2_with (first | ((with_reducible refine gate_dst (N := 31) rfl ?_); refine Kd.R_lit k98 _ 98 ?hg (N := 31) ?hd (xs := ([(⟨31, 1, 20⟩ : S98), (⟨12, 8, 12⟩ : S98), (⟨20, 1, 11⟩ : S98), (⟨21, 10, 1⟩ : S98)] : List (S98))) (inner := [.int .i64 31, .int .i64 1, .int .i64 20, .int .i64 12, .int .i64 8, .int .i64 12, .int .i64 20, .int .i64 1, .int .i64 11, .int .i64 21, .int .i64 10, .int .i64 1]) (ok := fun _ => True) (okp := fun _ => True) ?hr ?hp (fun _ hk => hk) trivial (Below.refl _ _) (Nat.le_refl _) (by simp) ?_; (case hd => rfl); (case hg => rfl); (case hr => exact m_14); (case hp => exact (Reps.c3 (show Kd.M k98 _ _ _ (⟨31, 1, 20⟩ : S98) [.int .i64 31, .int .i64 1, .int .i64 20] from (k98_mkM _ _ _ (⟨31, 1, 20⟩ : S98) )) (Reps.c3 (show Kd.M k98 _ _ _ (⟨12, 8, 12⟩ : S98) [.int .i64 12, .int .i64 8, .int .i64 12] from (k98_mkM _ _ _ (⟨12, 8, 12⟩ : S98) )) (Reps.c3 (show Kd.M k98 _ _ _ (⟨20, 1, 11⟩ : S98) [.int .i64 20, .int .i64 1, .int .i64 11] from (k98_mkM _ _ _ (⟨20, 1, 11⟩ : S98) )) (Reps.c3 (show Kd.M k98 _ _ _ (⟨21, 10, 1⟩ : S98) [.int .i64 21, .int .i64 10, .int .i64 1] from (k98_mkM _ _ _ (⟨21, 10, 1⟩ : S98) )) (Reps.none _ _)))))); intro v144 w15 ho16 hb hg_ hnew_; clear hg_ hnew_; (first | rw [← Ny143.out] at ho16 | (simp only [Int.reduceToNat] at ho16; rw [← Ny143.out] at ho16)); have n0_ := Aside0.mk (Kd.R_lower ho16 (below_size (m_0))); have n1_ := Aside0.mk (below_step (m_0) hb); clear HB; have HO145 := n0_; have HB := n1_; clear n0_ n1_; clear hb ho16))
           go_ret2
           exact ⟨_, m_3, by (with_reducible repeat (first | apply Kd.R_alloc | apply Kd.R_drewN | apply Kd.R_drew)); exact HO145.out, m_0⟩
         · rw [if_neg c14] at H
           have c14b0 : (a0 == 5) = false := beq_eq_false_iff_ne.mpr c14
           have c14b1 : (a0 != 5) = true := bne_iff_ne.mpr c14
           simp only [Option.some.injEq, Prod.mk.injEq] at H
           obtain ⟨rfl, rfl⟩ := H
           go_enter Try.func54, Try.ntmps54
           go_wp2
           go_ret2
           exact ⟨_, m_3, by first | exact Kd.R_nil _ _ _ _ _ | exact Kd.N_nil _ _ _ _ _ | exact Kd.V_nil _ _ _ _ _ | exact Kd.Q_nil _ _ _ _ _ | exact Kd.S_nil _ _ _ _ _, m_0⟩
end Go.Proofs.Ytihecimbhhlhaaa.PRs
end
section
namespace Go.Proofs.Ytihecimbhhlhaaa.PRs
open Go.RowKit Go.Proofs.YtihecimbhhlhaaaW.PrintWords Go.Proofs.YtihecimbhhlhaaaW.PrintLast Go.Proofs.YtihecimbhhlhaaaW.PrintMore
set_option linter.unusedVariables false
set_option linter.unusedSimpArgs false
/-! ### imm_get: function 56 -/
def imm_get.l0 : Nat → Int → Int → Int → List (S98) → Int → Int → Option (Int)
 | 0, _, _, _, _, _, _ => none
 | k + 1, x1, x6, x7, x15, x16, x17 => if x17 < x16 then (if 0 ≤ x17 then (if x17 < (x15.length : Int) then (if 0 ≤ ((rd_T98 x15 x17).f0) then ((imm_mask.f ((rd_T98 x15 x17).f1)).bind fun t152 => (if 0 ≤ ((rd_T98 x15 x17).f2) then (imm_get.l0 k x1 x6 (Go.bits .or .u32 x7 (shl .u32 (Go.bits .and .u32 (shr .u32 x1 ((rd_T98 x15 x17).f0)) t152) ((rd_T98 x15 x17).f2))) x15 x16 (wrap64 (x17 + 1))) else (none))) else (none)) else (none)) else (none)) else ((num_Sext.f x7 x6).bind fun t153 => ((num_Signed.f t153).bind fun t154 => (some t154)))
def imm_get.f (k : Nat) (a0 : Int) (a1 : Int) : Option (Int) := (imm_pieces.f a0).bind fun bt146 => (imm_get.l0 k a1 bt146.2 0 bt146.1 (bt146.1.length : Int) 0)
set_option maxHeartbeats 8000000 in
set_option maxRecDepth 100000 in
theorem imm_get.calls (k : Nat) (a0 : Int) (a1 : Int) (r : Int) (w : World) (h : imm_get.f k a0 a1 = some r) :
 Calls Try.prog 56 #[.int .i64 a0, .int .u32 a1] w fun e w' => e = .returned (.int .i32 r) ∧ Below w.heap.size w w' := by
 have hu98 := Try.underlying98
 have HB := Aside0.mk (Below.refl w.heap.size w)
 have H : ((imm_pieces.f a0).bind fun bt146 => (imm_get.l0 k a1 bt146.2 0 bt146.1 (bt146.1.length : Int) 0)) = some r := h
 clear h
 replace H := Option.bind_eq_some_iff.mp H
 obtain ⟨⟨t146, t147⟩, A30, H⟩ := H
 replace H : (imm_get.l0 k a1 t147 0 t146 (t146.length : Int) 0) = some r := H
 have A3 := Aside0.mk A30
 clear A30
 have H' := Aside0.mk H
 clear H
 go_enter Try.func56, Try.ntmps56
 go_wp2_with (first | (go_at_call 54; (with_reducible refine (imm_pieces.calls a0 t146 t147 _ A3.out).mono ?_); rintro e w4 ⟨v148, rfl, ho0, hb⟩; have n0_ := Aside0.mk (Kd.R_lower ho0 (below_size (m_0))); have n1_ := Aside0.mk (below_step (m_0) hb); clear HB; have HO149 := n0_; have HB := n1_; clear n0_ n1_; (try clear hb); (try clear hb2); (try clear hk); (try clear hi); (try clear ho0); obtain ⟨Ao5, co5, eo5⟩ := Kd.R_slice HO149.out; subst eo5))
 repeat (go_quiet (first | (go_at_call 54; (with_reducible refine (imm_pieces.calls a0 t146 t147 _ A3.out).mono ?_); rintro e w4 ⟨v148, rfl, ho0, hb⟩; have n0_ := Aside0.mk (Kd.R_lower ho0 (below_size (m_0))); have n1_ := Aside0.mk (below_step (m_0) hb); clear HB; have HO149 := n0_; have HB := n1_; clear n0_ n1_; (try clear hb); (try clear hb2); (try clear hk); (try clear hi); (try clear ho0); obtain ⟨Ao5, co5, eo5⟩ := Kd.R_slice HO149.out; subst eo5)); try go_wp2_with (first | (go_at_call 54; (with_reducible refine (imm_pieces.calls a0 t146 t147 _ A3.out).mono ?_); rintro e w4 ⟨v148, rfl, ho0, hb⟩; have n0_ := Aside0.mk (Kd.R_lower ho0 (below_size (m_0))); have n1_ := Aside0.mk (below_step (m_0) hb); clear HB; have HO149 := n0_; have HB := n1_; clear n0_ n1_; (try clear hb); (try clear hb2); (try clear hk); (try clear hi); (try clear ho0); obtain ⟨Ao5, co5, eo5⟩ := Kd.R_slice HO149.out; subst eo5)))
 go_loopg [7, 17] k (fun kq v7 v17 w' => ∃ (x7_1 : Int) (x17_1 : Int), v7 = .int .u32 x7_1 ∧ v17 = .int .i64 x17_1 ∧ Aside0 (imm_get.l0 kq a1 t147 x7_1 t146 (t146.length : Int) x17_1 = some r) ∧ Aside0 (kq ≤ k) ∧ Aside0 (Kd.R k98 98 w' w.heap.size (fun _ => True) (.slice Ao5 t146.length co5) t146) ∧ Aside0 (Below w.heap.size w w'))
 case atStart => exact ⟨(0), (0), (m_5), (m_5), H', ⟨Nat.le_refl _⟩, ⟨by (with_reducible repeat (first | apply Kd.R_alloc | apply Kd.R_drewN | apply Kd.R_drew)); exact HO149.out⟩, ⟨m_0⟩⟩
 case round =>
  clear H'
  obtain ⟨x7_1, x17_1, rfl, rfl, HA, HK1, HO_15, HB⟩ := hrel
  cases gk with
  | zero => exact absurd HA.out (by simp [imm_get.l0])
  | succ k1 =>
   have H := HA.out
   clear HA
   simp only [imm_get.l0] at H
   by_cases c6 : x17_1 < (t146.length : Int)
   · rw [if_pos c6] at H
     have c6b0 : decide (x17_1 < (t146.length : Int)) = true := decide_eq_true c6
     clear c6
     by_cases c7 : 0 ≤ x17_1
     · rw [if_pos c7] at H
       have c7b0 : decide (0 ≤ x17_1) = true := decide_eq_true c7
       clear c7
       by_cases c8 : x17_1 < (t146.length : Int)
       · rw [if_pos c8] at H
         have c8b0 : decide (x17_1 < (t146.length : Int)) = true := decide_eq_true c8
         clear c8
         by_cases c9 : 0 ≤ ((rd_T98 t146 x17_1).f0)
         · rw [if_pos c9] at H
           have c9b0 := eq_true c9
           have c9b1 : decide (0 ≤ ((rd_T98 t146 x17_1).f0)) = true := decide_eq_true c9
           clear c9
           obtain ⟨ji10, hji10⟩ : ∃ j_ : Int, (shr .u32 a1 ((rd_T98 t146 x17_1).f0)) = j_ := ⟨_, rfl⟩
           replace H : ((imm_mask.f ((rd_T98 t146 x17_1).f1)).bind fun t152 => (if 0 ≤ ((rd_T98 t146 x17_1).f2) then (imm_get.l0 k1 a1 t147 (Go.bits .or .u32 x7_1 (shl .u32 (Go.bits .and .u32 (ji10) t152) ((rd_T98 t146 x17_1).f2))) t146 (t146.length : Int) (wrap64 (x17_1 + 1))) else (none))) = some r := by first | (rw [hji10] at H; exact H) | (simp only [hji10] at H ⊢; exact H)
           have hji10_ : (a1 / 2 ^ min ((rd_T98 t146 x17_1).f0).toNat 32) = ji10 := hji10
           have hji10z : ((rd_T98 t146 x17_1).f0) ≤ 32 → (a1 / 2 ^ ((rd_T98 t146 x17_1).f0).toNat) = ji10 := shr_small hji10
           replace H := Option.bind_eq_some_iff.mp H
           obtain ⟨t152, A110, H⟩ := H
           replace H : (if 0 ≤ ((rd_T98 t146 x17_1).f2) then (imm_get.l0 k1 a1 t147 (Go.bits .or .u32 x7_1 (shl .u32 (Go.bits .and .u32 (ji10) t152) ((rd_T98 t146 x17_1).f2))) t146 (t146.length : Int) (wrap64 (x17_1 + 1))) else (none)) = some r := H
           have A11 := Aside0.mk A110
           clear A110
           by_cases c12 : 0 ≤ ((rd_T98 t146 x17_1).f2)
           · rw [if_pos c12] at H
             have c12b0 := eq_true c12
             have c12b1 : decide (0 ≤ ((rd_T98 t146 x17_1).f2)) = true := decide_eq_true c12
             clear c12
             obtain ⟨ji13, hji13⟩ : ∃ j_ : Int, (shl .u32 (Go.bits .and .u32 (ji10) t152) ((rd_T98 t146 x17_1).f2)) = j_ := ⟨_, rfl⟩
             replace H : (imm_get.l0 k1 a1 t147 (Go.bits .or .u32 x7_1 (ji13)) t146 (t146.length : Int) (wrap64 (x17_1 + 1))) = some r := by first | (rw [hji13] at H; exact H) | (simp only [hji13] at H ⊢; exact H)
             (try rw [hji13] at A11)
             have hji13_ : (IntKind.u32.wrap ((Go.bits .and .u32 (ji10) t152) * 2 ^ min ((rd_T98 t146 x17_1).f2).toNat 32)) = ji13 := hji13
             have hji13z : ((rd_T98 t146 x17_1).f2) ≤ 32 → (IntKind.u32.wrap ((Go.bits .and .u32 (ji10) t152) * 2 ^ ((rd_T98 t146 x17_1).f2).toNat)) = ji13 := shl_small hji13
             have H' := Aside0.mk H
             clear H
             have p150 : 0 ≤ (x17_1 : Int) := of_decide_eq_true (m_1)
             have q150 : x17_1 < (t146.length : Int) := of_decide_eq_true (m_1)
             obtain ⟨ad150, e150, hx150_0, hx150_1, hx150_2⟩ := at_T98 (Kd.R_reads' HO_15.out).2.2 x17_1 p150 q150
             cases e150
             replace p150 := eq_true p150
             replace q150 := eq_true q150
             go_wp2_with (first | ((with_reducible refine gate_dst (N := 9) rfl ?_); refine box_event ?hg (N := 9) ?hd (cs := #[.int .i64 0, .int .i64 0, .int .i64 0]) (t := 98) ?hr ?_; (case hd => rfl); (case hg => rfl); (case hr => exact m_14); intro gb151 hg w14 hbox hb; have n0_ := Aside0.mk (Kd.R_below (Kd.R_elderB (by (with_reducible repeat (first | apply Kd.R_alloc | apply Kd.R_drewN | apply Kd.R_drew)); exact HO_15.out) gb151 (Nat.le_of_eq hg.symm)) hb); have n1_ := Aside0.mk (below_step (m_0) hb); have n2_ := Aside0.mk (hbox); have n3_ := Aside0.mk ((m_21 : w.heap.size ≤ gb151)); have n4_ := Aside0.mk ((m_21 : w.heap.size ≤ gb151)); clear HO_15; clear HB; have HO_15 := n0_; have HB := n1_; have BK151 := n2_; have GW151 := n3_; have GE151 := n4_; clear n0_ n1_ n2_ n3_ n4_; clear hb hbox hg; obtain ⟨hcz15_0, hcz15_1, hcz15_2, hfz15_0, hfz15_1, hfz15_2⟩ := cz3 (w := w14) BK151.out) | (go_at_call 55; (with_reducible refine (imm_mask.calls ((rd_T98 t146 x17_1).f1) t152 _ A11.out).mono ?_); rintro e w' ⟨rfl, ⟨nd, rfl⟩⟩; (try first | exact ⟨rfl, _, World.drewN_drewN _ _ _⟩ | exact ⟨rfl, _, Eq.trans (World.drewN_drewN _ _ _) (congrArg (World.drewN _) (Nat.add_assoc _ _ _))⟩)))
             repeat (go_quiet (first | ((with_reducible refine gate_dst (N := 9) rfl ?_); refine box_event ?hg (N := 9) ?hd (cs := #[.int .i64 0, .int .i64 0, .int .i64 0]) (t := 98) ?hr ?_; (case hd => rfl); (case hg => rfl); (case hr => exact m_14); intro gb151 hg w14 hbox hb; have n0_ := Aside0.mk (Kd.R_below (Kd.R_elderB (by (with_reducible repeat (first | apply Kd.R_alloc | apply Kd.R_drewN | apply Kd.R_drew)); exact HO_15.out) gb151 (Nat.le_of_eq hg.symm)) hb); have n1_ := Aside0.mk (below_step (m_0) hb); have n2_ := Aside0.mk (hbox); have n3_ := Aside0.mk ((m_21 : w.heap.size ≤ gb151)); have n4_ := Aside0.mk ((m_21 : w.heap.size ≤ gb151)); clear HO_15; clear HB; have HO_15 := n0_; have HB := n1_; have BK151 := n2_; have GW151 := n3_; have GE151 := n4_; clear n0_ n1_ n2_ n3_ n4_; clear hb hbox hg; obtain ⟨hcz15_0, hcz15_1, hcz15_2, hfz15_0, hfz15_1, hfz15_2⟩ := cz3 (w := w14) BK151.out) | (go_at_call 55; (with_reducible refine (imm_mask.calls ((rd_T98 t146 x17_1).f1) t152 _ A11.out).mono ?_); rintro e w' ⟨rfl, ⟨nd, rfl⟩⟩; (try first | exact ⟨rfl, _, World.drewN_drewN _ _ _⟩ | exact ⟨rfl, _, Eq.trans (World.drewN_drewN _ _ _) (congrArg (World.drewN _) (Nat.add_assoc _ _ _))⟩))); try go_wp2_with (first | ((with_reducible refine gate_dst (N := 9) rfl ?_); refine box_event ?hg (N := 9) ?hd (cs := #[.int .i64 0, .int .i64 0, .int .i64 0]) (t := 98) ?hr ?_; (case hd => rfl); (case hg => rfl); (case hr => exact m_14); intro gb151 hg w14 hbox hb; have n0_ := Aside0.mk (Kd.R_below (Kd.R_elderB (by (with_reducible repeat (first | apply Kd.R_alloc | apply Kd.R_drewN | apply Kd.R_drew)); exact HO_15.out) gb151 (Nat.le_of_eq hg.symm)) hb); have n1_ := Aside0.mk (below_step (m_0) hb); have n2_ := Aside0.mk (hbox); have n3_ := Aside0.mk ((m_21 : w.heap.size ≤ gb151)); have n4_ := Aside0.mk ((m_21 : w.heap.size ≤ gb151)); clear HO_15; clear HB; have HO_15 := n0_; have HB := n1_; have BK151 := n2_; have GW151 := n3_; have GE151 := n4_; clear n0_ n1_ n2_ n3_ n4_; clear hb hbox hg; obtain ⟨hcz15_0, hcz15_1, hcz15_2, hfz15_0, hfz15_1, hfz15_2⟩ := cz3 (w := w14) BK151.out) | (go_at_call 55; (with_reducible refine (imm_mask.calls ((rd_T98 t146 x17_1).f1) t152 _ A11.out).mono ?_); rintro e w' ⟨rfl, ⟨nd, rfl⟩⟩; (try first | exact ⟨rfl, _, World.drewN_drewN _ _ _⟩ | exact ⟨rfl, _, Eq.trans (World.drewN_drewN _ _ _) (congrArg (World.drewN _) (Nat.add_assoc _ _ _))⟩))))
             go_roundg k1
             case measure => have := HK1.out; omega
             case rel => exact ⟨(Go.bits .or .u32 x7_1 (ji13)), (wrap64 (x17_1 + 1)), (by first | rfl | (simp; done) | (simp only [← hji13] <;> (first | rfl | simp)) | (simp [*]; done)), (m_5), H', ⟨by have := HK1.out; omega⟩, ⟨by (with_reducible repeat (first | apply Kd.R_alloc | apply Kd.R_drewN | apply Kd.R_drew)); exact Kd.R_mono (Kd.R_far (p := ⟨gb151, 2, none⟩) (Kd.R_far (p := ⟨gb151, 1, none⟩) (Kd.R_far (p := ⟨gb151, 0, none⟩) (Kd.R_mono HO_15.out (fun k_ hk => (⟨hk, hk.2⟩ : _ ∧ k_ ≠ gb151))) (fun _ hk => hk.2) (.int .i64 ((rd_T98 t146 x17_1).f0))) (fun _ hk => hk.2) (.int .i64 ((rd_T98 t146 x17_1).f1))) (fun _ hk => hk.2) (.int .i64 ((rd_T98 t146 x17_1).f2))) (fun _ hk => trivial)⟩, ⟨by repeat (first | (with_reducible first | exact HB.out | apply below_alloc | apply pw_below_drewN | apply below_drew1 | refine below_set ?_ GE151.out) | exact HB.out)⟩⟩
           · rw [if_neg c12] at H
             exact absurd H (by simp)
         · rw [if_neg c9] at H
           exact absurd H (by simp)
       · rw [if_neg c8] at H
         exact absurd H (by simp)
     · rw [if_neg c7] at H
       exact absurd H (by simp)
   · rw [if_neg c6] at H
     have c6b0 : decide (x17_1 < (t146.length : Int)) = false := decide_eq_false c6
     clear c6
     replace H := Option.bind_eq_some_iff.mp H
     obtain ⟨t153, A160, H⟩ := H
     replace H : ((num_Signed.f t153).bind fun t154 => (some t154)) = some r := H
     have A16 := Aside0.mk A160
     clear A160
     replace H := Option.bind_eq_some_iff.mp H
     obtain ⟨t154, A170, H⟩ := H
     replace H : (some t154) = some r := H
     have A17 := Aside0.mk A170
     clear A170
     obtain rfl := Option.some.inj H
     go_wp2_with (first | (go_at_call 58; (with_reducible refine (num_Sext.calls x7_1 t147 t153 _ A16.out).mono ?_); rintro e w' ⟨rfl, ⟨nd, rfl⟩⟩; (try first | exact ⟨rfl, _, World.drewN_drewN _ _ _⟩ | exact ⟨rfl, _, Eq.trans (World.drewN_drewN _ _ _) (congrArg (World.drewN _) (Nat.add_assoc _ _ _))⟩)) | (go_at_call 57; (with_reducible refine (num_Signed.calls t153 t154 _ A17.out).mono ?_); rintro e w' ⟨rfl, ⟨nd, rfl⟩⟩; (try first | exact ⟨rfl, _, World.drewN_drewN _ _ _⟩ | exact ⟨rfl, _, Eq.trans (World.drewN_drewN _ _ _) (congrArg (World.drewN _) (Nat.add_assoc _ _ _))⟩)))
     repeat (go_quiet (first | (go_at_call 58; (with_reducible refine (num_Sext.calls x7_1 t147 t153 _ A16.out).mono ?_); rintro e w' ⟨rfl, ⟨nd, rfl⟩⟩; (try first | exact ⟨rfl, _, World.drewN_drewN _ _ _⟩ | exact ⟨rfl, _, Eq.trans (World.drewN_drewN _ _ _) (congrArg (World.drewN _) (Nat.add_assoc _ _ _))⟩)) | (go_at_call 57; (with_reducible refine (num_Signed.calls t153 t154 _ A17.out).mono ?_); rintro e w' ⟨rfl, ⟨nd, rfl⟩⟩; (try first | exact ⟨rfl, _, World.drewN_drewN _ _ _⟩ | exact ⟨rfl, _, Eq.trans (World.drewN_drewN _ _ _) (congrArg (World.drewN _) (Nat.add_assoc _ _ _))⟩))); try go_wp2_with (first | (go_at_call 58; (with_reducible refine (num_Sext.calls x7_1 t147 t153 _ A16.out).mono ?_); rintro e w' ⟨rfl, ⟨nd, rfl⟩⟩; (try first | exact ⟨rfl, _, World.drewN_drewN _ _ _⟩ | exact ⟨rfl, _, Eq.trans (World.drewN_drewN _ _ _) (congrArg (World.drewN _) (Nat.add_assoc _ _ _))⟩)) | (go_at_call 57; (with_reducible refine (num_Signed.calls t153 t154 _ A17.out).mono ?_); rintro e w' ⟨rfl, ⟨nd, rfl⟩⟩; (try first | exact ⟨rfl, _, World.drewN_drewN _ _ _⟩ | exact ⟨rfl, _, Eq.trans (World.drewN_drewN _ _ _) (congrArg (World.drewN _) (Nat.add_assoc _ _ _))⟩))))
     go_ret
     exact ⟨m_3, m_0⟩
end Go.Proofs.Ytihecimbhhlhaaa.PRs
end
section
namespace Go.Proofs.Ytihecimbhhlhaaa.PRs
open Go.RowKit Go.Proofs.YtihecimbhhlhaaaW.PrintWords Go.Proofs.YtihecimbhhlhaaaW.PrintLast Go.Proofs.YtihecimbhhlhaaaW.PrintMore
set_option linter.unusedVariables false
set_option linter.unusedSimpArgs false
attribute [local go_sem high] eqA32
/-! ### imm_Put: function 49 -/
def imm_Put.l0 : Nat → Int → Int → Int → Int → List (S98) → Int → Int → Option (Int × Bool)
 | 0, _, _, _, _, _, _, _ => none
 | k + 1, x0, x1, x7, x8, x16, x17, x18 => if x18 < x17 then (if 0 ≤ x18 then (if x18 < (x16.length : Int) then (if 0 ≤ ((rd_T98 x16 x18).f2) then ((imm_mask.f ((rd_T98 x16 x18).f1)).bind fun t161 => (if 0 ≤ ((rd_T98 x16 x18).f0) then (imm_Put.l0 k x0 x1 x7 (Go.bits .or .u32 x8 (shl .u32 (Go.bits .and .u32 (shr .u32 ((x1) % 4294967296) ((rd_T98 x16 x18).f2)) t161) ((rd_T98 x16 x18).f0))) x16 x17 (wrap64 (x18 + 1))) else (none))) else (none)) else (none)) else (none)) else (if x7 = 0 then (some (0, false)) else ((imm_get.f k x0 x8).bind fun t162 => (if t162 = x1 then (some (x8, true)) else (some (0, false)))))
def imm_Put.f (k : Nat) (a0 : Int) (a1 : Int) : Option (Int × Bool) := (imm_pieces.f a0).bind fun bt155 => (imm_Put.l0 k a0 a1 bt155.2 0 bt155.1 (bt155.1.length : Int) 0)
theorem lfxRsImmPut0 {P : Prop} (h : P := by
 simp only [Option.some.injEq, Prod.mk.injEq] at H
 obtain ⟨rfl, rfl⟩ := H
 go_wp2_with (first | (go_at_call 56; (with_reducible refine (imm_get.calls k1 a0 x8_1 t162 _ A17.out).mono ?_); rintro e w_0 ⟨rfl, hb⟩; have n_1 := Aside0.mk (Kd.R_below (m_47) hb); have n_2 := Aside0.mk (below_step (m_0) hb); clear HO_16; clear HB; have HO_16 := n_1; have HB := n_2; clear n_1 n_2; (try clear hb); (try clear hb2); (try clear hk); (try clear hi)))
 repeat (go_quiet (first | (go_at_call 56; (with_reducible refine (imm_get.calls k1 a0 x8_1 t162 _ A17.out).mono ?_); rintro e w_0 ⟨rfl, hb⟩; have n_1 := Aside0.mk (Kd.R_below (m_47) hb); have n_2 := Aside0.mk (below_step (m_0) hb); clear HO_16; clear HB; have HO_16 := n_1; have HB := n_2; clear n_1 n_2; (try clear hb); (try clear hb2); (try clear hk); (try clear hi))); try go_wp2_with (first | (go_at_call 56; (with_reducible refine (imm_get.calls k1 a0 x8_1 t162 _ A17.out).mono ?_); rintro e w_0 ⟨rfl, hb⟩; have n_1 := Aside0.mk (Kd.R_below (m_47) hb); have n_2 := Aside0.mk (below_step (m_0) hb); clear HO_16; clear HB; have HO_16 := n_1; have HB := n_2; clear n_1 n_2; (try clear hb); (try clear hb2); (try clear hk); (try clear hi))))
 go_ret2
 exact ⟨m_3, m_0⟩) : P := h
set_option maxHeartbeats 8000000 in
set_option maxRecDepth 100000 in
theorem imm_Put.calls (k : Nat) (a0 : Int) (a1 : Int) (r1 : Int) (r2 : Bool) (w : World) (h : imm_Put.f k a0 a1 = some (r1, r2)) :
 Calls Try.prog 49 #[.int .i64 a0, .int .i32 a1] w fun e w' => e = .returned (.tuple #[.int .u32 r1, .bool r2]) ∧ Below w.heap.size w w' := by
 have hu98 := Try.underlying98
 have HB := Aside0.mk (Below.refl w.heap.size w)
 have H : ((imm_pieces.f a0).bind fun bt155 => (imm_Put.l0 k a0 a1 bt155.2 0 bt155.1 (bt155.1.length : Int) 0)) = some (r1, r2) := h
 clear h
 replace H := Option.bind_eq_some_iff.mp H
 obtain ⟨⟨t155, t156⟩, A30, H⟩ := H
 replace H : (imm_Put.l0 k a0 a1 t156 0 t155 (t155.length : Int) 0) = some (r1, r2) := H
 have A3 := Aside0.mk A30
 clear A30
 have H' := Aside0.mk H
 clear H
 go_enter Try.func49, Try.ntmps49
 go_wp2_with (first | (go_at_call 54; (with_reducible refine (imm_pieces.calls a0 t155 t156 _ A3.out).mono ?_); rintro e w4 ⟨v157, rfl, ho0, hb⟩; have n0_ := Aside0.mk (Kd.R_lower ho0 (below_size (m_0))); have n1_ := Aside0.mk (below_step (m_0) hb); clear HB; have HO158 := n0_; have HB := n1_; clear n0_ n1_; (try clear hb); (try clear hb2); (try clear hk); (try clear hi); (try clear ho0); obtain ⟨Ao5, co5, eo5⟩ := Kd.R_slice HO158.out; subst eo5))
 repeat (go_quiet (first | (go_at_call 54; (with_reducible refine (imm_pieces.calls a0 t155 t156 _ A3.out).mono ?_); rintro e w4 ⟨v157, rfl, ho0, hb⟩; have n0_ := Aside0.mk (Kd.R_lower ho0 (below_size (m_0))); have n1_ := Aside0.mk (below_step (m_0) hb); clear HB; have HO158 := n0_; have HB := n1_; clear n0_ n1_; (try clear hb); (try clear hb2); (try clear hk); (try clear hi); (try clear ho0); obtain ⟨Ao5, co5, eo5⟩ := Kd.R_slice HO158.out; subst eo5)); try go_wp2_with (first | (go_at_call 54; (with_reducible refine (imm_pieces.calls a0 t155 t156 _ A3.out).mono ?_); rintro e w4 ⟨v157, rfl, ho0, hb⟩; have n0_ := Aside0.mk (Kd.R_lower ho0 (below_size (m_0))); have n1_ := Aside0.mk (below_step (m_0) hb); clear HB; have HO158 := n0_; have HB := n1_; clear n0_ n1_; (try clear hb); (try clear hb2); (try clear hk); (try clear hi); (try clear ho0); obtain ⟨Ao5, co5, eo5⟩ := Kd.R_slice HO158.out; subst eo5)))
 go_loopg [8, 18] k (fun kq v8 v18 w' => ∃ (x8_1 : Int) (x18_1 : Int), v8 = .int .u32 x8_1 ∧ v18 = .int .i64 x18_1 ∧ Aside0 (imm_Put.l0 kq a0 a1 t156 x8_1 t155 (t155.length : Int) x18_1 = some (r1, r2)) ∧ Aside0 (kq ≤ k) ∧ Aside0 (Kd.R k98 98 w' w.heap.size (fun _ => True) (.slice Ao5 t155.length co5) t155) ∧ Aside0 (Below w.heap.size w w'))
 case atStart => exact ⟨(0), (0), (m_5), (m_5), H', ⟨Nat.le_refl _⟩, ⟨by (with_reducible repeat (first | apply Kd.R_alloc | apply Kd.R_drewN | apply Kd.R_drew)); exact HO158.out⟩, ⟨m_0⟩⟩
 case round =>
  clear H'
  obtain ⟨x8_1, x18_1, rfl, rfl, HA, HK1, HO_16, HB⟩ := hrel
  cases gk with
  | zero => exact absurd HA.out (by simp [imm_Put.l0])
  | succ k1 =>
   have H := HA.out
   clear HA
   simp only [imm_Put.l0] at H
   by_cases c6 : x18_1 < (t155.length : Int)
   · rw [if_pos c6] at H
     have c6b0 : decide (x18_1 < (t155.length : Int)) = true := decide_eq_true c6
     clear c6
     by_cases c7 : 0 ≤ x18_1
     · rw [if_pos c7] at H
       have c7b0 : decide (0 ≤ x18_1) = true := decide_eq_true c7
       clear c7
       by_cases c8 : x18_1 < (t155.length : Int)
       · rw [if_pos c8] at H
         have c8b0 : decide (x18_1 < (t155.length : Int)) = true := decide_eq_true c8
         clear c8
         by_cases c9 : 0 ≤ ((rd_T98 t155 x18_1).f2)
         · rw [if_pos c9] at H
           have c9b0 := eq_true c9
           have c9b1 : decide (0 ≤ ((rd_T98 t155 x18_1).f2)) = true := decide_eq_true c9
           clear c9
           obtain ⟨ji10, hji10⟩ : ∃ j_ : Int, (shr .u32 ((a1) % 4294967296) ((rd_T98 t155 x18_1).f2)) = j_ := ⟨_, rfl⟩
           replace H : ((imm_mask.f ((rd_T98 t155 x18_1).f1)).bind fun t161 => (if 0 ≤ ((rd_T98 t155 x18_1).f0) then (imm_Put.l0 k1 a0 a1 t156 (Go.bits .or .u32 x8_1 (shl .u32 (Go.bits .and .u32 (ji10) t161) ((rd_T98 t155 x18_1).f0))) t155 (t155.length : Int) (wrap64 (x18_1 + 1))) else (none))) = some (r1, r2) := by first | (rw [hji10] at H; exact H) | (simp only [hji10] at H ⊢; exact H)
           have hji10_ : (((a1) % 4294967296) / 2 ^ min ((rd_T98 t155 x18_1).f2).toNat 32) = ji10 := hji10
           have hji10z : ((rd_T98 t155 x18_1).f2) ≤ 32 → (((a1) % 4294967296) / 2 ^ ((rd_T98 t155 x18_1).f2).toNat) = ji10 := shr_small hji10
           replace H := Option.bind_eq_some_iff.mp H
           obtain ⟨t161, A110, H⟩ := H
           replace H : (if 0 ≤ ((rd_T98 t155 x18_1).f0) then (imm_Put.l0 k1 a0 a1 t156 (Go.bits .or .u32 x8_1 (shl .u32 (Go.bits .and .u32 (ji10) t161) ((rd_T98 t155 x18_1).f0))) t155 (t155.length : Int) (wrap64 (x18_1 + 1))) else (none)) = some (r1, r2) := H
           have A11 := Aside0.mk A110
           clear A110
           by_cases c12 : 0 ≤ ((rd_T98 t155 x18_1).f0)
           · rw [if_pos c12] at H
             have c12b0 := eq_true c12
             have c12b1 : decide (0 ≤ ((rd_T98 t155 x18_1).f0)) = true := decide_eq_true c12
             clear c12
             obtain ⟨ji13, hji13⟩ : ∃ j_ : Int, (shl .u32 (Go.bits .and .u32 (ji10) t161) ((rd_T98 t155 x18_1).f0)) = j_ := ⟨_, rfl⟩
             replace H : (imm_Put.l0 k1 a0 a1 t156 (Go.bits .or .u32 x8_1 (ji13)) t155 (t155.length : Int) (wrap64 (x18_1 + 1))) = some (r1, r2) := by first | (rw [hji13] at H; exact H) | (simp only [hji13] at H ⊢; exact H)
             (try rw [hji13] at A11)
             have hji13_ : (IntKind.u32.wrap ((Go.bits .and .u32 (ji10) t161) * 2 ^ min ((rd_T98 t155 x18_1).f0).toNat 32)) = ji13 := hji13
             have hji13z : ((rd_T98 t155 x18_1).f0) ≤ 32 → (IntKind.u32.wrap ((Go.bits .and .u32 (ji10) t161) * 2 ^ ((rd_T98 t155 x18_1).f0).toNat)) = ji13 := shl_small hji13
             have H' := Aside0.mk H
             clear H
             have p159 : 0 ≤ (x18_1 : Int) := of_decide_eq_true (m_1)
             have q159 : x18_1 < (t155.length : Int) := of_decide_eq_true (m_1)
             obtain ⟨ad159, e159, hx159_0, hx159_1, hx159_2⟩ := at_T98 (Kd.R_reads' HO_16.out).2.2 x18_1 p159 q159
             cases e159
             replace p159 := eq_true p159
             replace q159 := eq_true q159
             go_wp2_with (first | ((with_reducible refine gate_dst (N := 10) rfl ?_); refine box_event ?hg (N := 10) ?hd (cs := #[.int .i64 0, .int .i64 0, .int .i64 0]) (t := 98) ?hr ?_; (case hd => rfl); (case hg => rfl); (case hr => exact m_14); intro gb160 hg w14 hbox hb; have n0_ := Aside0.mk (Kd.R_below (Kd.R_elderB (m_47) gb160 (Nat.le_of_eq hg.symm)) hb); have n1_ := Aside0.mk (below_step (m_0) hb); have n2_ := Aside0.mk (hbox); have n3_ := Aside0.mk ((m_21 : w.heap.size ≤ gb160)); have n4_ := Aside0.mk ((m_21 : w.heap.size ≤ gb160)); clear HO_16; clear HB; have HO_16 := n0_; have HB := n1_; have BK160 := n2_; have GW160 := n3_; have GE160 := n4_; clear n0_ n1_ n2_ n3_ n4_; clear hb hbox hg; obtain ⟨hcz15_0, hcz15_1, hcz15_2, hfz15_0, hfz15_1, hfz15_2⟩ := cz3 (w := w14) BK160.out) | (go_at_call 55; (with_reducible refine (imm_mask.calls ((rd_T98 t155 x18_1).f1) t161 _ A11.out).mono ?_); rintro e w' ⟨rfl, ⟨nd, rfl⟩⟩; (try first | exact ⟨rfl, _, World.drewN_drewN _ _ _⟩ | exact ⟨rfl, _, Eq.trans (World.drewN_drewN _ _ _) (congrArg (World.drewN _) (Nat.add_assoc _ _ _))⟩)))
             repeat (go_quiet (first | ((with_reducible refine gate_dst (N := 10) rfl ?_); refine box_event ?hg (N := 10) ?hd (cs := #[.int .i64 0, .int .i64 0, .int .i64 0]) (t := 98) ?hr ?_; (case hd => rfl); (case hg => rfl); (case hr => exact m_14); intro gb160 hg w14 hbox hb; have n0_ := Aside0.mk (Kd.R_below (Kd.R_elderB (m_47) gb160 (Nat.le_of_eq hg.symm)) hb); have n1_ := Aside0.mk (below_step (m_0) hb); have n2_ := Aside0.mk (hbox); have n3_ := Aside0.mk ((m_21 : w.heap.size ≤ gb160)); have n4_ := Aside0.mk ((m_21 : w.heap.size ≤ gb160)); clear HO_16; clear HB; have HO_16 := n0_; have HB := n1_; have BK160 := n2_; have GW160 := n3_; have GE160 := n4_; clear n0_ n1_ n2_ n3_ n4_; clear hb hbox hg; obtain ⟨hcz15_0, hcz15_1, hcz15_2, hfz15_0, hfz15_1, hfz15_2⟩ := cz3 (w := w14) BK160.out) | (go_at_call 55; (with_reducible refine (imm_mask.calls ((rd_T98 t155 x18_1).f1) t161 _ A11.out).mono ?_); rintro e w' ⟨rfl, ⟨nd, rfl⟩⟩; (try first | exact ⟨rfl, _, World.drewN_drewN _ _ _⟩ | exact ⟨rfl, _, Eq.trans (World.drewN_drewN _ _ _) (congrArg (World.drewN _) (Nat.add_assoc _ _ _))⟩))); try go_wp2_with (first | ((with_reducible refine gate_dst (N := 10) rfl ?_); refine box_event ?hg (N := 10) ?hd (cs := #[.int .i64 0, .int .i64 0, .int .i64 0]) (t := 98) ?hr ?_; (case hd => rfl); (case hg => rfl); (case hr => exact m_14); intro gb160 hg w14 hbox hb; have n0_ := Aside0.mk (Kd.R_below (Kd.R_elderB (m_47) gb160 (Nat.le_of_eq hg.symm)) hb); have n1_ := Aside0.mk (below_step (m_0) hb); have n2_ := Aside0.mk (hbox); have n3_ := Aside0.mk ((m_21 : w.heap.size ≤ gb160)); have n4_ := Aside0.mk ((m_21 : w.heap.size ≤ gb160)); clear HO_16; clear HB; have HO_16 := n0_; have HB := n1_; have BK160 := n2_; have GW160 := n3_; have GE160 := n4_; clear n0_ n1_ n2_ n3_ n4_; clear hb hbox hg; obtain ⟨hcz15_0, hcz15_1, hcz15_2, hfz15_0, hfz15_1, hfz15_2⟩ := cz3 (w := w14) BK160.out) | (go_at_call 55; (with_reducible refine (imm_mask.calls ((rd_T98 t155 x18_1).f1) t161 _ A11.out).mono ?_); rintro e w' ⟨rfl, ⟨nd, rfl⟩⟩; (try first | exact ⟨rfl, _, World.drewN_drewN _ _ _⟩ | exact ⟨rfl, _, Eq.trans (World.drewN_drewN _ _ _) (congrArg (World.drewN _) (Nat.add_assoc _ _ _))⟩))))
             go_roundg k1
             case measure => have := HK1.out; omega
             case rel => exact ⟨(Go.bits .or .u32 x8_1 (ji13)), (wrap64 (x18_1 + 1)), (by first | rfl | (simp; done) | (simp only [← hji13] <;> (first | rfl | simp)) | (simp [*]; done)), (m_5), H', ⟨by have := HK1.out; omega⟩, ⟨by (with_reducible repeat (first | apply Kd.R_alloc | apply Kd.R_drewN | apply Kd.R_drew)); exact Kd.R_mono (Kd.R_far (p := ⟨gb160, 2, none⟩) (Kd.R_far (p := ⟨gb160, 1, none⟩) (Kd.R_far (p := ⟨gb160, 0, none⟩) (Kd.R_mono HO_16.out (fun k_ hk => (⟨hk, hk.2⟩ : _ ∧ k_ ≠ gb160))) (fun _ hk => hk.2) (.int .i64 ((rd_T98 t155 x18_1).f0))) (fun _ hk => hk.2) (.int .i64 ((rd_T98 t155 x18_1).f1))) (fun _ hk => hk.2) (.int .i64 ((rd_T98 t155 x18_1).f2))) (fun _ hk => trivial)⟩, ⟨by repeat (first | (with_reducible first | exact HB.out | apply below_alloc | apply pw_below_drewN | apply below_drew1 | refine below_set ?_ GE160.out) | exact HB.out)⟩⟩
           · rw [if_neg c12] at H
             exact absurd H (by simp)
         · rw [if_neg c9] at H
           exact absurd H (by simp)
       · rw [if_neg c8] at H
         exact absurd H (by simp)
     · rw [if_neg c7] at H
       exact absurd H (by simp)
   · rw [if_neg c6] at H
     have c6b0 : decide (x18_1 < (t155.length : Int)) = false := decide_eq_false c6
     clear c6
     by_cases c16 : t156 = 0
     · rw [if_pos c16] at H
       have c16b0 : (t156 == 0) = true := beq_iff_eq.mpr c16
       have c16b1 : (t156 != 0) = false := bne_eq_false_iff_eq.mpr c16
       clear c16
       simp only [Option.some.injEq, Prod.mk.injEq] at H
       obtain ⟨rfl, rfl⟩ := H
       go_wp2
       repeat (go_quiet (fail); try go_wp2)
       go_ret2
       exact ⟨m_3, m_0⟩
     · rw [if_neg c16] at H
       have c16b0 : (t156 == 0) = false := beq_eq_false_iff_ne.mpr c16
       have c16b1 : (t156 != 0) = true := bne_iff_ne.mpr c16
       replace H := Option.bind_eq_some_iff.mp H
       obtain ⟨t162, A170, H⟩ := H
       replace H : (if t162 = a1 then (some (x8_1, true)) else (some (0, false))) = some (r1, r2) := H
       have A17 := Aside0.mk A170
       clear A170
       by_cases c18 : t162 = a1
       · rw [if_pos c18] at H
         have c18b0 : (t162 == a1) = true := beq_iff_eq.mpr c18
         have c18b1 : (t162 != a1) = false := bne_eq_false_iff_eq.mpr c18
         clear c18
         exact lfxRsImmPut0
       · rw [if_neg c18] at H
         have c18b0 : (t162 == a1) = false := beq_eq_false_iff_ne.mpr c18
         have c18b1 : (t162 != a1) = true := bne_iff_ne.mpr c18
         exact lfxRsImmPut0
end Go.Proofs.Ytihecimbhhlhaaa.PRs
end
section
namespace Go.Proofs.Ytihecimbhhlhaaa.PRs
open Go.RowKit Go.Proofs.YtihecimbhhlhaaaW.PrintWords Go.Proofs.YtihecimbhhlhaaaW.PrintLast Go.Proofs.YtihecimbhhlhaaaW.PrintMore
set_option linter.unusedVariables false
set_option linter.unusedSimpArgs false
/-! ### inst_fits: function 48 -/
def inst_fits.f (a0 : Int) (a1 : Bool) : Option (Bool) := if a0 = 0 then (some true) else (if a1 = true then (if a0 > 0 then (some (decide (a0 < 32))) else (some false)) else (some false))
set_option maxHeartbeats 8000000 in
set_option maxRecDepth 100000 in
theorem inst_fits.calls (a0 : Int) (a1 : Bool) (r : Bool) (w : World) (h : inst_fits.f a0 a1 = some r) :
 Calls Try.prog 48 #[.int .i64 a0, .bool a1] w fun e w' => e = .returned (.bool r) ∧ Drawn0 w w' := by
 have H : (if a0 = 0 then (some true) else (if a1 = true then (if a0 > 0 then (some (decide (a0 < 32))) else (some false)) else (some false))) = some r := h
 clear h
 by_cases c3 : a0 = 0
 · rw [if_pos c3] at H
   have c3b0 : (a0 == 0) = true := beq_iff_eq.mpr c3
   have c3b1 : (a0 != 0) = false := bne_eq_false_iff_eq.mpr c3
   clear c3
   obtain rfl := Option.some.inj H
   go_enter Try.func48, Try.ntmps48
   go_wp2
   go_ret
   exact ⟨m_5, m_19⟩
 · rw [if_neg c3] at H
   have c3b0 : (a0 == 0) = false := beq_eq_false_iff_ne.mpr c3
   have c3b1 : (a0 != 0) = true := bne_iff_ne.mpr c3
   by_cases c4 : a1 = true
   · subst c4
     have H1 : (if a0 > 0 then (some (decide (a0 < 32))) else (some false)) = some r := by rw [if_pos rfl] at H; exact H
     clear H
     have H := H1
     clear H1
     by_cases c5 : a0 > 0
     · rw [if_pos c5] at H
       have c5b0 : decide (0 < a0) = true := decide_eq_true c5
       clear c5
       obtain rfl := Option.some.inj H
       go_enter Try.func48, Try.ntmps48
       go_wp2
       go_ret
       exact ⟨m_5, m_19⟩
     · rw [if_neg c5] at H
       have c5b0 : decide (0 < a0) = false := decide_eq_false c5
       clear c5
       obtain rfl := Option.some.inj H
       go_enter Try.func48, Try.ntmps48
       go_wp2
       go_ret
       exact ⟨m_5, m_19⟩
   · replace c4 := Bool.eq_false_iff.mpr c4
     subst c4
     have H1 : (some false) = some r := by rw [if_neg (show ¬ (false = true) by decide)] at H; exact H
     clear H
     have H := H1
     clear H1
     obtain rfl := Option.some.inj H
     go_enter Try.func48, Try.ntmps48
     go_wp2
     go_ret
     exact ⟨m_5, m_19⟩
end Go.Proofs.Ytihecimbhhlhaaa.PRs
end
