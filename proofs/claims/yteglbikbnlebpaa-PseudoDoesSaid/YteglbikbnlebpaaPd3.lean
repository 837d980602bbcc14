/- Two rows of registers that differ at two numbers alone. -/
import Derived.Test.YteglbikbnlebpaaPd2
namespace Go.Proofs.Yteglbikbnlebpaa.Pd
open Go.RowKit Dr PPs
set_option linter.unusedVariables false
set_option linter.unusedSimpArgs false
set_option maxRecDepth 100000

set_option maxHeartbeats 8000000 in
theorem others_is (ρ σ : Nat → Int) (x y : Int) (w : World) (h : ∀ i : Nat, i < 32 → (i : Int) ≠ x → (i : Int) ≠ y → ρ i = σ i) :
    Calls Try.prog 6 #[.agg (arr ρ), .agg (arr σ), .int .i64 x, .int .i64 y] w fun e w' => e = .returned (.bool true) ∧ Below w.heap.size w w' := by
  have H := Lib.hid h
  clear h
  go_enter Try.func6, Try.ntmps6
  apply wp_seq_k
  intro K1 hK1
  have HK1 := Lib.hid hK1
  clear hK1
  refine wp_listed (R := fun W W' => Below W.heap.size W W') 3 [newSpec (.cells (arr ρ) 24 (0, 0)) (w.heap.size), newSpec (.cells (arr σ) 24 (0, 0)) (w.heap.size), .val (.bool false)] (fun W => Below w.heap.size w W) (by kernel_rfl) (Below.refl _ _) ?_ ?_
  · intro vs W hG b hb
    have e0 : b.eval (.tmp 0) = .agg (arr ρ) := eo hb (by kernel_rfl)
    have e1 : b.eval (.tmp 1) = .agg (arr σ) := eo hb (by kernel_rfl)
    clear hb
    refine And.intro ?_ (And.intro ?_ (And.intro ?_ (trivial)))
    · intro hp K hK
      refine g_no rfl ?_
      exact st_box rfl (e0) (box24 _ _) (hK _ _ ⟨_, rfl, blk_new _ _, hG.size⟩ (hG.alloc hG.size _) ((Below.refl _ _).alloc (Nat.le_refl _) _))
    · intro hp K hK
      refine g_no rfl ?_
      exact st_box rfl (e1) (box24 _ _) (hK _ _ ⟨_, rfl, blk_new _ _, hG.size⟩ (hG.alloc hG.size _) ((Below.refl _ _).alloc (Nat.le_refl _) _))
    · intro hp K hK
      refine g_no rfl ?_
      exact st_move (.inr rfl) (eval_const _) (hK _ _ rfl hG (Below.refl _ _))
  intro vs W hG hp b hb
  have q0 : ∃ gg, (vs 0) = .pointer (some ⟨gg, 0, none⟩) ∧ W.heap[gg]? = some (.cells (arr ρ) 24 (0, 0)) ∧ w.heap.size ≤ gg := hp 0 (by decide)
  have q1 : ∃ gg, (vs 1) = .pointer (some ⟨gg, 0, none⟩) ∧ W.heap[gg]? = some (.cells (arr σ) 24 (0, 0)) ∧ w.heap.size ≤ gg := hp 1 (by decide)
  have q2 : vs 2 = _ := hp 2 (by decide)
  clear hp
  simp only [fill, Act.put, List.append_eq, List.cons_append, List.nil_append, List.take_succ_cons, List.take_zero, List.setIfInBounds_toArray, List.set_cons_succ, List.set_cons_zero, Nat.reduceAdd, Nat.zero_add, q2] at hb
  subst hb
  refine wpList_nil ?_
  clear q2
  obtain ⟨g0, hv0, A0, hg0⟩ := q0
  obtain ⟨g1, hv1, A1, hg1⟩ := q1
  rw [hv0, hv1]
  clear hv0 hv1 vs hg0 hg1
  refine HK1.out _ _ ?_
  clear HK1
  apply wp_seq_k
  intro K2 hK2
  have HK2 := Lib.hid hK2
  clear hK2
  apply wp_seq_k
  intro K3 hK3
  have HK3 := Lib.hid hK3
  clear hK3
  have HG := Lib.hid hG
  have HA0 := Lib.hid A0
  have HA1 := Lib.hid A1
  clear hG A0 A1
  go_wp2
  refine HK3.out _ _ ?_
  clear HK3
  apply wp_block
  refine wp_loopS [9, 10, 11, 12, 13, 14, 15, 16, 17, 18, 19, 20, 21, 22, 23, 24, 25, 26, 27, 28, 29, 30] (fun sl W => ∃ i : Nat, sl 9 = .int .i64 (i : Int) ∧ i ≤ 32 ∧ Below w.heap.size w W ∧ W.heap[g0]? = some (.cells (arr ρ) 24 (0, 0)) ∧ W.heap[g1]? = some (.cells (arr σ) 24 (0, 0))) (fun sl W => Msr (32 : Int) (sl 9)) ⟨0, rfl, Nat.zero_le _, HG.out, HA0.out, HA1.out⟩ ?_
  intro vs W b hb hI
  clear HG HA0 HA1
  obtain ⟨i, h9, hi, hG⟩ := hI
  simp only [setSlots, Act.put, List.setIfInBounds_toArray, List.set_cons_succ, List.set_cons_zero] at hb
  subst hb
  replace h9 : vs 9 = .int .i64 (i : Int) := h9
  rw [h9]
  clear h9
  apply wp_seq_k
  intro K4 hK4
  have HK4 := Lib.hid hK4
  clear hK4
  apply wp_seq_k
  intro K5 hK5
  have HK5 := Lib.hid hK5
  clear hK5
  refine wp_listed (R := fun W W' => Below W.heap.size W W') 2 [.val (.int .i64 (i : Int)), .val (.bool (decide ((i : Int) < 32)))] (fun W => Below w.heap.size w W ∧ W.heap[g0]? = some (.cells (arr ρ) 24 (0, 0)) ∧ W.heap[g1]? = some (.cells (arr σ) 24 (0, 0))) (by kernel_rfl) hG ?_ ?_
  · intro vs W hG b hb
    have e9 : b.eval (.tmp 9) = .int .i64 (i : Int) := eo hb (by kernel_rfl)
    have i10 := ei (d := 10) hb 0 (by kernel_rfl) rfl rfl (by simp)
    clear hb
    refine And.intro ?_ (And.intro ?_ (trivial))
    · intro hp K hK
      refine g_no rfl ?_
      exact st_move (.inl rfl) (e9) (hK _ _ rfl hG (Below.refl _ _))
    · intro hp K hK
      refine g_no rfl ?_
      have e10 : b.eval (.tmp 10) = _ := i10.trans (hp 0 (by kernel_rfl))
      exact st_bin rfl (e10) (eval_const _) b_lss (hK _ _ rfl hG (Below.refl _ _))
  intro vs W hG hp b hb
  have q1 : vs 1 = _ := hp 1 (by decide)
  clear hp
  simp only [fill, Act.put, List.append_eq, List.cons_append, List.nil_append, List.take_succ_cons, List.take_zero, List.setIfInBounds_toArray, List.set_cons_succ, List.set_cons_zero, Nat.reduceAdd, Nat.zero_add, q1] at hb
  subst hb
  refine wpList_nil ?_
  clear q1
  refine HK5.out _ _ ?_
  clear HK5
  refine wp_cond_split rfl (fun hlt => ?_) (fun hlt => ?_)
  rotate_left
  · clear hlt
    apply wp_exit
    simp only [Exit.inBlock, Exit.then, ↓reduceIte]
    refine HK2.out _ _ ?_
    clear HK2
    have hBB := hG.1
    clear hG
    go_wp2
    go_ret
    exact ⟨rfl, hBB⟩
  have hil : i < 32 := by have := of_decide_eq_true hlt; omega
  clear hlt
  apply wp_skip
  simp only [Exit.then]
  refine HK4.out _ _ ?_
  clear HK4
  apply wp_seq_k
  intro K6 hK6
  have HK6 := Lib.hid hK6
  clear hK6
  apply wp_block
  apply wp_seq_k
  intro K7 hK7
  have HK7 := Lib.hid hK7
  clear hK7
  refine wp_drawn (R := fun W W' => Below W.heap.size W W') 17 [.val (.int .i64 (i : Int)), .val (.int .i64 x), .val (.bool ((i : Int) != x)), .val (.bool ((i : Int) != x)), .val ((bif (((i : Int) != x) == true) then (.int .i64 (i : Int)) else undef)), .val ((bif (((i : Int) != x) == true) then (.int .i64 y) else undef)), .val ((bif (((i : Int) != x) == true) then (.bool ((i : Int) != y)) else undef)), .val (.bool (((i : Int) != x) && ((i : Int) != y))), .val (.bool (((i : Int) != x) && ((i : Int) != y))), .val ((bif ((((i : Int) != x) && ((i : Int) != y)) == true) then (.int .i64 (i : Int)) else undef)), .val ((bif ((((i : Int) != x) && ((i : Int) != y)) == true) then (.pointer (some ⟨g0, 0 + i, none⟩)) else undef)), .val ((bif ((((i : Int) != x) && ((i : Int) != y)) == true) then (.int .u32 (ρ i)) else undef)), .val ((bif ((((i : Int) != x) && ((i : Int) != y)) == true) then (.int .i64 (i : Int)) else undef)), .val ((bif ((((i : Int) != x) && ((i : Int) != y)) == true) then (.pointer (some ⟨g1, 0 + i, none⟩)) else undef)), .val ((bif ((((i : Int) != x) && ((i : Int) != y)) == true) then (.int .u32 (σ i)) else undef)), .val ((bif ((((i : Int) != x) && ((i : Int) != y)) == true) then (.bool ((ρ i) != (σ i))) else undef)), .val (.bool ((((i : Int) != x) && ((i : Int) != y)) && ((ρ i) != (σ i))))] (fun W => Below w.heap.size w W ∧ W.heap[g0]? = some (.cells (arr ρ) 24 (0, 0)) ∧ W.heap[g1]? = some (.cells (arr σ) 24 (0, 0))) rfl (by kernel_rfl) ⟨hG.1.drew, hG.2⟩ ?_ ?_
  · intro vs W hG b hb
    have e2 : b.eval (.tmp 2) = .int .i64 x := eo hb (by kernel_rfl)
    have e3 : b.eval (.tmp 3) = .int .i64 y := eo hb (by kernel_rfl)
    have e4 : b.eval (.tmp 4) = .pointer (some ⟨g0, 0, none⟩) := eo hb (by kernel_rfl)
    have e5 : b.eval (.tmp 5) = .pointer (some ⟨g1, 0, none⟩) := eo hb (by kernel_rfl)
    have e9 : b.eval (.tmp 9) = .int .i64 (i : Int) := eo hb (by kernel_rfl)
    have i14 := ei (d := 14) hb 0 (by kernel_rfl) rfl rfl (by simp)
    have i15 := ei (d := 15) hb 1 (by kernel_rfl) rfl rfl (by simp)
    have i16 := ei (d := 16) hb 2 (by kernel_rfl) rfl rfl (by simp)
    have i17 := ei (d := 17) hb 3 (by kernel_rfl) rfl rfl (by simp)
    have i18 := ei (d := 18) hb 4 (by kernel_rfl) rfl rfl (by simp)
    have i19 := ei (d := 19) hb 5 (by kernel_rfl) rfl rfl (by simp)
    have i20 := ei (d := 20) hb 6 (by kernel_rfl) rfl rfl (by simp)
    have i21 := ei (d := 21) hb 7 (by kernel_rfl) rfl rfl (by simp)
    have i22 := ei (d := 22) hb 8 (by kernel_rfl) rfl rfl (by simp)
    have i23 := ei (d := 23) hb 9 (by kernel_rfl) rfl rfl (by simp)
    have i24 := ei (d := 24) hb 10 (by kernel_rfl) rfl rfl (by simp)
    have i25 := ei (d := 25) hb 11 (by kernel_rfl) rfl rfl (by simp)
    have i26 := ei (d := 26) hb 12 (by kernel_rfl) rfl rfl (by simp)
    have i27 := ei (d := 27) hb 13 (by kernel_rfl) rfl rfl (by simp)
    have i28 := ei (d := 28) hb 14 (by kernel_rfl) rfl rfl (by simp)
    have i29 := ei (d := 29) hb 15 (by kernel_rfl) rfl rfl (by simp)
    clear hb
    refine And.intro ?_ (And.intro ?_ (And.intro ?_ (And.intro ?_ (And.intro ?_ (And.intro ?_ (And.intro ?_ (And.intro ?_ (And.intro ?_ (And.intro ?_ (And.intro ?_ (And.intro ?_ (And.intro ?_ (And.intro ?_ (And.intro ?_ (And.intro ?_ (And.intro ?_ (trivial)))))))))))))))))
    · intro hp K hK
      refine g_no rfl ?_
      exact st_move (.inl rfl) (e9) (hK _ _ rfl hG (Below.refl _ _))
    · intro hp K hK
      refine g_no rfl ?_
      exact st_move (.inl rfl) (e2) (hK _ _ rfl hG (Below.refl _ _))
    · intro hp K hK
      refine g_no rfl ?_
      have e14 : b.eval (.tmp 14) = _ := i14.trans (hp 0 (by kernel_rfl))
      have e15 : b.eval (.tmp 15) = _ := i15.trans (hp 1 (by kernel_rfl))
      exact st_bin rfl (e14) (e15) b_neq (hK _ _ rfl hG (Below.refl _ _))
    · intro hp K hK
      refine g_no rfl ?_
      have e16 : b.eval (.tmp 16) = _ := i16.trans (hp 2 (by kernel_rfl))
      exact st_move (.inl rfl) (e16) (hK _ _ rfl hG (Below.refl _ _))
    · intro hp K hK
      refine g_is (j := 3) (want := true) (c := (i : Int) != x) rfl (yielded_of (d := 17) rfl rfl (i17.trans (hp 3 (by kernel_rfl)))) (fun hb => ?_) (fun hb => hK _ _ (cond_no hb) hG (Below.refl _ _))
      exact st_move (.inl rfl) (e9) (hK _ _ (cond_yes hb).symm hG (Below.refl _ _))
    · intro hp K hK
      refine g_is (j := 3) (want := true) (c := (i : Int) != x) rfl (yielded_of (d := 17) rfl rfl (i17.trans (hp 3 (by kernel_rfl)))) (fun hb => ?_) (fun hb => hK _ _ (cond_no hb) hG (Below.refl _ _))
      exact st_move (.inl rfl) (e3) (hK _ _ (cond_yes hb).symm hG (Below.refl _ _))
    · intro hp K hK
      refine g_is (j := 3) (want := true) (c := (i : Int) != x) rfl (yielded_of (d := 17) rfl rfl (i17.trans (hp 3 (by kernel_rfl)))) (fun hb => ?_) (fun hb => hK _ _ (cond_no hb) hG (Below.refl _ _))
      have e18 : b.eval (.tmp 18) = _ := i18.trans (hp 4 (by kernel_rfl))
      replace e18 := e18.trans (cond_yes hb)
      have e19 : b.eval (.tmp 19) = _ := i19.trans (hp 5 (by kernel_rfl))
      replace e19 := e19.trans (cond_yes hb)
      exact st_bin rfl (e18) (e19) b_neq (hK _ _ (cond_yes hb).symm hG (Below.refl _ _))
    · intro hp K hK
      refine g_no rfl ?_
      have e17 : b.eval (.tmp 17) = _ := i17.trans (hp 3 (by kernel_rfl))
      have e20 : b.eval (.tmp 20) = _ := i20.trans (hp 6 (by kernel_rfl))
      exact st_pick rfl (e17) (by first | (rw [e20]; exact pick_and) | (rw [show b.eval (Operand.tmp 20) = _ from eval_const _]; exact pick_and)) (hK _ _ rfl hG (Below.refl _ _))
    · intro hp K hK
      refine g_no rfl ?_
      have e21 : b.eval (.tmp 21) = _ := i21.trans (hp 7 (by kernel_rfl))
      exact st_move (.inl rfl) (e21) (hK _ _ rfl hG (Below.refl _ _))
    · intro hp K hK
      refine g_is (j := 8) (want := true) (c := ((i : Int) != x) && ((i : Int) != y)) rfl (yielded_of (d := 22) rfl rfl (i22.trans (hp 8 (by kernel_rfl)))) (fun hb => ?_) (fun hb => hK _ _ (cond_no hb) hG (Below.refl _ _))
      exact st_move (.inl rfl) (e9) (hK _ _ (cond_yes hb).symm hG (Below.refl _ _))
    · intro hp K hK
      refine g_is (j := 8) (want := true) (c := ((i : Int) != x) && ((i : Int) != y)) rfl (yielded_of (d := 22) rfl rfl (i22.trans (hp 8 (by kernel_rfl)))) (fun hb => ?_) (fun hb => hK _ _ (cond_no hb) hG (Below.refl _ _))
      have e23 : b.eval (.tmp 23) = _ := i23.trans (hp 9 (by kernel_rfl))
      replace e23 := e23.trans (cond_yes hb)
      exact st_index rfl (e4) (e23) (ixa _ _ _ hil _) (hK _ _ (cond_yes hb).symm hG (Below.refl _ _))
    · intro hp K hK
      refine g_is (j := 8) (want := true) (c := ((i : Int) != x) && ((i : Int) != y)) rfl (yielded_of (d := 22) rfl rfl (i22.trans (hp 8 (by kernel_rfl)))) (fun hb => ?_) (fun hb => hK _ _ (cond_no hb) hG (Below.refl _ _))
      have e24 : b.eval (.tmp 24) = _ := i24.trans (hp 10 (by kernel_rfl))
      replace e24 := e24.trans (cond_yes hb)
      exact st_load rfl (e24) (ld_cell 22 (by kernel_rfl) ((blk_cell hG.2.1 (0 + i)).trans (by rw [Nat.zero_add]; exact arr_get _ hil))) (hK _ _ (cond_yes hb).symm hG (Below.refl _ _))
    · intro hp K hK
      refine g_is (j := 8) (want := true) (c := ((i : Int) != x) && ((i : Int) != y)) rfl (yielded_of (d := 22) rfl rfl (i22.trans (hp 8 (by kernel_rfl)))) (fun hb => ?_) (fun hb => hK _ _ (cond_no hb) hG (Below.refl _ _))
      exact st_move (.inl rfl) (e9) (hK _ _ (cond_yes hb).symm hG (Below.refl _ _))
    · intro hp K hK
      refine g_is (j := 8) (want := true) (c := ((i : Int) != x) && ((i : Int) != y)) rfl (yielded_of (d := 22) rfl rfl (i22.trans (hp 8 (by kernel_rfl)))) (fun hb => ?_) (fun hb => hK _ _ (cond_no hb) hG (Below.refl _ _))
      have e26 : b.eval (.tmp 26) = _ := i26.trans (hp 12 (by kernel_rfl))
      replace e26 := e26.trans (cond_yes hb)
      exact st_index rfl (e5) (e26) (ixa _ _ _ hil _) (hK _ _ (cond_yes hb).symm hG (Below.refl _ _))
    · intro hp K hK
      refine g_is (j := 8) (want := true) (c := ((i : Int) != x) && ((i : Int) != y)) rfl (yielded_of (d := 22) rfl rfl (i22.trans (hp 8 (by kernel_rfl)))) (fun hb => ?_) (fun hb => hK _ _ (cond_no hb) hG (Below.refl _ _))
      have e27 : b.eval (.tmp 27) = _ := i27.trans (hp 13 (by kernel_rfl))
      replace e27 := e27.trans (cond_yes hb)
      exact st_load rfl (e27) (ld_cell 22 (by kernel_rfl) ((blk_cell hG.2.2 (0 + i)).trans (by rw [Nat.zero_add]; exact arr_get _ hil))) (hK _ _ (cond_yes hb).symm hG (Below.refl _ _))
    · intro hp K hK
      refine g_is (j := 8) (want := true) (c := ((i : Int) != x) && ((i : Int) != y)) rfl (yielded_of (d := 22) rfl rfl (i22.trans (hp 8 (by kernel_rfl)))) (fun hb => ?_) (fun hb => hK _ _ (cond_no hb) hG (Below.refl _ _))
      have e25 : b.eval (.tmp 25) = _ := i25.trans (hp 11 (by kernel_rfl))
      replace e25 := e25.trans (cond_yes hb)
      have e28 : b.eval (.tmp 28) = _ := i28.trans (hp 14 (by kernel_rfl))
      replace e28 := e28.trans (cond_yes hb)
      exact st_bin rfl (e25) (e28) b_neq (hK _ _ (cond_yes hb).symm hG (Below.refl _ _))
    · intro hp K hK
      refine g_no rfl ?_
      have e22 : b.eval (.tmp 22) = _ := i22.trans (hp 8 (by kernel_rfl))
      have e29 : b.eval (.tmp 29) = _ := i29.trans (hp 15 (by kernel_rfl))
      exact st_pick rfl (e22) (by first | (rw [e29]; exact pick_and) | (rw [show b.eval (Operand.tmp 29) = _ from eval_const _]; exact pick_and)) (hK _ _ rfl hG (Below.refl _ _))
  intro vs W hG hp b hb
  have q16 : vs 16 = _ := hp 16 (by decide)
  clear hp
  simp only [fill, Act.put, List.append_eq, List.cons_append, List.nil_append, List.take_succ_cons, List.take_zero, List.setIfInBounds_toArray, List.set_cons_succ, List.set_cons_zero, Nat.reduceAdd, Nat.zero_add, q16] at hb
  subst hb
  refine wpList_nil ?_
  clear q16
  refine HK7.out _ _ ?_
  clear HK7
  have hc : ((((i : Int) != x) && ((i : Int) != y)) && ((ρ i) != (σ i))) = false := by
    have := H.out i hil
    by_cases c1 : (i : Int) = x
    · simp [c1]
    · by_cases c2 : (i : Int) = y
      · simp [c2]
      · simp [this c1 c2]
  rw [hc]
  clear hc
  apply wp_cond_false rfl
  apply wp_skip
  simp only [Exit.inBlock, Exit.then, ↓reduceIte]
  refine HK6.out _ _ ?_
  clear HK6
  have hl : IntKind.i64.wrap ((i : Int) + 1) = (i : Int) + 1 := IntWalk.i64_in _ (by omega)
  have HG := Lib.hid hG
  have Hil := Lib.hid hil
  clear hG hil hi
  go_wp2
  have hil := Hil.out
  refine ⟨loop_frame (by kernel_rfl), ⟨i + 1, by show Value.int .i64 _ = _; simp, hil, HG.out⟩, Msr.lt (by omega)⟩
end Go.Proofs.Yteglbikbnlebpaa.Pd
