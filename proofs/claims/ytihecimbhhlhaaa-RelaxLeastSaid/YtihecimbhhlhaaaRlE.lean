/- The law RelaxReach. -/
import Derived.Test.YtihecimbhhlhaaaRlD
namespace Go.Proofs.Ytihecimbhhlhaaa.Rl
open Go.RowKit Dr PRs
open Go.Proofs.YtihecimbhhlhaaaW.PrintWords (Kd Kd.C Kd.R Kd.C_below Kd.C_get Kd.R_below Kd.R_reads Kd.R_reads' Kd.R_types Kd.R_step Kd.R_alloc Kd.R_drew Kd.R_lower add_field)
set_option linter.unusedVariables false
set_option linter.unusedSimpArgs false
set_option maxRecDepth 100000

set_option maxHeartbeats 16000000 in
theorem reach_law (A : Option Addr) (c : Nat) (l : List S48) (w : World) (hc : l.length ≤ c) (hl : ∀ y ∈ l, okx y.f1) (hC : Kd.C k48 w A l.length l) :
    Calls Try.prog 3 #[.slice A l.length c] w fun e w' => e = .returned (.bool true) ∧ Below w.heap.size w w' := by
  obtain ⟨x, hx, hn, hok⟩ := items_is l hl
  have HC := Lib.hid hC
  have HN := Lib.hid hn
  have HO := Lib.hid hok
  clear hC hn hok
  go_enter Try.func3, Try.ntmps3
  apply wp_seq_k
  intro K1 hK1
  have HK1 := Lib.hid hK1
  clear hK1
  refine wp_listed (R := fun W W' => Below W.heap.size W W') 1 [.val (.bool false)] (fun W => Below w.heap.size w W) (by kernel_rfl) (Below.refl _ _) ?_ ?_
  · intro vs W hG b hb
    clear hb
    refine And.intro ?_ (trivial)
    · intro hp K hK
      refine g_no rfl ?_
      exact st_move (.inr rfl) (eval_const _) (hK _ _ rfl hG (Below.refl _ _))
  intro vs W hG hp b hb
  have q0 : vs 0 = _ := hp 0 (by decide)
  clear hp
  simp only [fill, Act.put, List.append_eq, List.cons_append, List.nil_append, List.take_succ_cons, List.take_zero, List.setIfInBounds_toArray, List.set_cons_succ, List.set_cons_zero, Nat.reduceAdd, Nat.zero_add, q0] at hb
  subst hb
  refine wpList_nil ?_
  clear q0
  refine HK1.out _ _ ?_
  clear HK1
  apply wp_seq_k
  intro K2 hK2
  have HK2 := Lib.hid hK2
  clear hK2
  refine wp_listed (R := fun W W' => Below W.heap.size W W') 3 [.val (.slice A l.length c), rowS (x) w.heap.size, rowS (x) w.heap.size] (fun W => Below w.heap.size w W) (by kernel_rfl) hG ?_ ?_
  · intro vs W hG b hb
    have e0 : b.eval (.tmp 0) = .slice A l.length c := eo hb (by kernel_rfl)
    have i9 := ei (d := 9) hb 0 (by kernel_rfl) rfl rfl (by simp)
    have i10 := ei (d := 10) hb 1 (by kernel_rfl) rfl rfl (by simp)
    clear hb
    refine And.intro ?_ (And.intro ?_ (And.intro ?_ (trivial)))
    · intro hp K hK
      refine g_no rfl ?_
      exact st_move (.inl rfl) (e0) (hK _ _ rfl hG (Below.refl _ _))
    · intro hp K hK
      refine g_no rfl ?_
      have e9 : b.eval (.tmp 9) = _ := i9.trans (hp 0 (by kernel_rfl))
      refine st_call rfl (by first | (simp only [List.map_toArray, List.map_cons, List.map_nil, eval_const, e9]; done) | (simp only [List.map_toArray, List.map_cons, List.map_nil, eval_const, e9]; rfl)) (by kernel_rfl) ?_
      refine (pintlelaw13_Items.calls 4200 A c l x _ (Kd.C_below HC.out hG) hc hx).mono ?_
      rintro e w' ⟨v, rfl, hR, hb'⟩; obtain ⟨A2, c2, rfl, hc, hC⟩ := Kd.R_reads hR
      exact ⟨_, rfl, hK _ _ ⟨_, _, rfl, hc, hC⟩ (below_step hG hb') hb'⟩
    · intro hp K hK
      refine g_no rfl ?_
      have q1 : ∃ A c, (vs 1) = .slice A (x).length c ∧ (x).length ≤ c ∧ Kd.C k34 W A (x).length (x) := hp 1 (by kernel_rfl)
      obtain ⟨A, c, hv, hc, hC⟩ := q1
      have e10 := i10.trans hv
      exact st_move (.inr rfl) (e10) (hK _ _ ⟨_, _, rfl, hc, hC⟩ hG (Below.refl _ _))
  intro vs W hG hp b hb
  have q0 : vs 0 = _ := hp 0 (by decide)
  have q1 : ∃ A c, (vs 1) = .slice A (x).length c ∧ (x).length ≤ c ∧ Kd.C k34 W A (x).length (x) := hp 1 (by decide)
  have q2 : ∃ A c, (vs 2) = .slice A (x).length c ∧ (x).length ≤ c ∧ Kd.C k34 W A (x).length (x) := hp 2 (by decide)
  clear hp
  simp only [fill, Act.put, List.append_eq, List.cons_append, List.nil_append, List.take_succ_cons, List.take_zero, List.setIfInBounds_toArray, List.set_cons_succ, List.set_cons_zero, Nat.reduceAdd, Nat.zero_add, q0] at hb
  subst hb
  refine wpList_nil ?_
  clear q0
  clear q1
  obtain ⟨Ax, cx, hv, hcx, hCx⟩ := q2
  rw [hv]
  clear hv
  replace hG := And.intro hG hCx
  clear hCx
  refine HK2.out _ _ ?_
  clear HK2
  by_cases ho : okL x
  rotate_left
  · skip
    apply wp_seq_k
    intro K3 hK3
    have HK3 := Lib.hid hK3
    clear hK3
    refine wp_listed (R := fun W W' => Below W.heap.size W W') 9 [.val (.slice Ax x.length cx), errSpec (fun k => .tuple #[.slice none 0 0, .slice none 0 0, .int .i64 k]), errSpec (fun k => .tuple #[.slice none 0 0, .slice none 0 0, .int .i64 k]), .val (.slice none 0 0), .val (.slice none 0 0), errSpec (fun k => .int .i64 k), .val (.slice none 0 0), .val (.slice none 0 0), errSpec (fun k => .int .i64 k)] (fun W => Below w.heap.size w W ∧ Kd.C k34 W Ax x.length x) (by kernel_rfl) hG ?_ ?_
    · intro vs W hG b hb
      have e3 : b.eval (.tmp 3) = .slice Ax x.length cx := eo hb (by kernel_rfl)
      have i11 := ei (d := 11) hb 2 (by kernel_rfl) rfl rfl (by simp)
      have i12 := ei (d := 12) hb 0 (by kernel_rfl) rfl rfl (by simp)
      have i13 := ei (d := 13) hb 1 (by kernel_rfl) rfl rfl (by simp)
      have i14 := ei (d := 14) hb 3 (by kernel_rfl) rfl rfl (by simp)
      have i15 := ei (d := 15) hb 4 (by kernel_rfl) rfl rfl (by simp)
      have i16 := ei (d := 16) hb 5 (by kernel_rfl) rfl rfl (by simp)
      clear hb
      refine And.intro ?_ (And.intro ?_ (And.intro ?_ (And.intro ?_ (And.intro ?_ (And.intro ?_ (And.intro ?_ (And.intro ?_ (And.intro ?_ (trivial)))))))))
      · intro hp K hK
        refine g_no rfl ?_
        exact st_move (.inl rfl) (e3) (hK _ _ rfl hG (Below.refl _ _))
      · intro hp K hK
        refine g_no rfl ?_
        have e12 : b.eval (.tmp 12) = _ := i12.trans (hp 0 (by kernel_rfl))
        refine st_call rfl (by first | (simp only [List.map_toArray, List.map_cons, List.map_nil, eval_const, e12]; done) | (simp only [List.map_toArray, List.map_cons, List.map_nil, eval_const, e12]; rfl)) (by kernel_rfl) ?_
        refine (layout_bad Ax cx x _ HN.out (fun x hx => (HO.out x hx).1) (fun x hx => (HO.out x hx).2) hG.2 ho).mono ?_
        rintro e w' ⟨k, hk, rfl, hb'⟩
        exact ⟨_, rfl, hK _ _ ⟨_, hk, rfl⟩ ⟨below_step hG.1 hb', Kd.C_below hG.2 hb'⟩ hb'⟩
      · intro hp K hK
        refine g_no rfl ?_
        have q1 : ∃ k : Int, k ≠ 0 ∧ (vs 1) = .tuple #[.slice none 0 0, .slice none 0 0, .int .i64 k] := hp 1 (by kernel_rfl)
        obtain ⟨k, hk, hv⟩ := q1
        have e13 := i13.trans hv
        exact st_move (.inl rfl) (e13) (hK _ _ ⟨_, hk, rfl⟩ hG (Below.refl _ _))
      · intro hp K hK
        refine g_no rfl ?_
        have q2 : ∃ k : Int, k ≠ 0 ∧ (vs 2) = .tuple #[.slice none 0 0, .slice none 0 0, .int .i64 k] := hp 2 (by kernel_rfl)
        obtain ⟨k, hk, hv⟩ := q2
        have e11 := i11.trans hv
        exact st_extract rfl (e11) (by kernel_rfl) (hK _ _ rfl hG (Below.refl _ _))
      · intro hp K hK
        refine g_no rfl ?_
        have q2 : ∃ k : Int, k ≠ 0 ∧ (vs 2) = .tuple #[.slice none 0 0, .slice none 0 0, .int .i64 k] := hp 2 (by kernel_rfl)
        obtain ⟨k, hk, hv⟩ := q2
        have e11 := i11.trans hv
        exact st_extract rfl (e11) (by kernel_rfl) (hK _ _ rfl hG (Below.refl _ _))
      · intro hp K hK
        refine g_no rfl ?_
        have q2 : ∃ k : Int, k ≠ 0 ∧ (vs 2) = .tuple #[.slice none 0 0, .slice none 0 0, .int .i64 k] := hp 2 (by kernel_rfl)
        obtain ⟨k, hk, hv⟩ := q2
        have e11 := i11.trans hv
        exact st_extract rfl (e11) (by kernel_rfl) (hK _ _ ⟨_, hk, rfl⟩ hG (Below.refl _ _))
      · intro hp K hK
        refine g_no rfl ?_
        have e14 : b.eval (.tmp 14) = _ := i14.trans (hp 3 (by kernel_rfl))
        exact st_move (.inr rfl) (e14) (hK _ _ rfl hG (Below.refl _ _))
      · intro hp K hK
        refine g_no rfl ?_
        have e15 : b.eval (.tmp 15) = _ := i15.trans (hp 4 (by kernel_rfl))
        exact st_move (.inr rfl) (e15) (hK _ _ rfl hG (Below.refl _ _))
      · intro hp K hK
        refine g_no rfl ?_
        have q5 : ∃ k : Int, k ≠ 0 ∧ (vs 5) = .int .i64 k := hp 5 (by kernel_rfl)
        obtain ⟨k, hk, hv⟩ := q5
        have e16 := i16.trans hv
        exact st_move (.inr rfl) (e16) (hK _ _ ⟨_, hk, rfl⟩ hG (Below.refl _ _))
    intro vs W hG hp b hb
    have q1 : ∃ k : Int, k ≠ 0 ∧ (vs 1) = .tuple #[.slice none 0 0, .slice none 0 0, .int .i64 k] := hp 1 (by decide)
    have q2 : ∃ k : Int, k ≠ 0 ∧ (vs 2) = .tuple #[.slice none 0 0, .slice none 0 0, .int .i64 k] := hp 2 (by decide)
    have q5 : ∃ k : Int, k ≠ 0 ∧ (vs 5) = .int .i64 k := hp 5 (by decide)
    have q6 : vs 6 = _ := hp 6 (by decide)
    have q7 : vs 7 = _ := hp 7 (by decide)
    have q8 : ∃ k : Int, k ≠ 0 ∧ (vs 8) = .int .i64 k := hp 8 (by decide)
    clear hp
    simp only [fill, Act.put, List.append_eq, List.cons_append, List.nil_append, List.take_succ_cons, List.take_zero, List.setIfInBounds_toArray, List.set_cons_succ, List.set_cons_zero, Nat.reduceAdd, Nat.zero_add, q6, q7] at hb
    subst hb
    refine wpList_nil ?_
    clear q6 q7
    clear q1 q2 q5
    obtain ⟨k, hk, hv⟩ := q8
    rw [hv]
    clear hv
    refine HK3.out _ _ ?_
    clear HK3
    apply wp_seq_k
    intro K4 hK4
    have HK4 := Lib.hid hK4
    clear hK4
    apply wp_seq_k
    intro K5 hK5
    have HK5 := Lib.hid hK5
    clear hK5
    refine wp_listed (R := fun W W' => Below W.heap.size W W') 2 [.val (.int .i64 k), .val (.bool (k != 0))] (fun W => Below w.heap.size w W ∧ Kd.C k34 W Ax x.length x) (by kernel_rfl) hG ?_ ?_
    · intro vs W hG b hb
      have e6 : b.eval (.tmp 6) = .int .i64 k := eo hb (by kernel_rfl)
      have i17 := ei (d := 17) hb 0 (by kernel_rfl) rfl rfl (by simp)
      clear hb
      refine And.intro ?_ (And.intro ?_ (trivial))
      · intro hp K hK
        refine g_no rfl ?_
        exact st_move (.inl rfl) (e6) (hK _ _ rfl hG (Below.refl _ _))
      · intro hp K hK
        refine g_no rfl ?_
        have e17 : b.eval (.tmp 17) = _ := i17.trans (hp 0 (by kernel_rfl))
        exact st_bin rfl (e17) (eval_const _) b_neq (hK _ _ rfl hG (Below.refl _ _))
    intro vs W hG hp b hb
    have q1 : vs 1 = _ := hp 1 (by decide)
    clear hp
    simp only [fill, Act.put, List.append_eq, List.cons_append, List.nil_append, List.take_succ_cons, List.take_zero, List.setIfInBounds_toArray, List.set_cons_succ, List.set_cons_zero, Nat.reduceAdd, Nat.zero_add, q1] at hb
    subst hb
    refine wpList_nil ?_
    clear q1
    refine HK5.out _ _ ?_
    clear HK5
    have hd : (k != 0) = true := by simpa using hk
    rw [hd]
    clear hd
    apply wp_cond_true rfl
    apply wp_seq_k
    intro K6 hK6
    have HK6 := Lib.hid hK6
    clear hK6
    refine wp_listed (R := fun W W' => Below W.heap.size W W') 12 [.val (.slice none 0 0), .val (.int .i64 ((0 : Nat) : Int)), .val (.bool (((0 : Nat) : Int) == 0)), .val (.bool (((0 : Nat) : Int) == 0)), .val ((bif ((((0 : Nat) : Int) == 0) == true) then (.slice none 0 0) else undef)), .val ((bif ((((0 : Nat) : Int) == 0) == true) then (.int .i64 ((0 : Nat) : Int)) else undef)), .val ((bif ((((0 : Nat) : Int) == 0) == true) then (.bool (((0 : Nat) : Int) == 0)) else undef)), .val (.bool ((((0 : Nat) : Int) == 0) && (((0 : Nat) : Int) == 0))), .val (.bool ((((0 : Nat) : Int) == 0) && (((0 : Nat) : Int) == 0))), .val ((bif (((((0 : Nat) : Int) == 0) && (((0 : Nat) : Int) == 0)) == true) then (.bool true) else undef)), .val (.bool (((((0 : Nat) : Int) == 0) && (((0 : Nat) : Int) == 0)) && true)), .val (.bool (((((0 : Nat) : Int) == 0) && (((0 : Nat) : Int) == 0)) && true))] (fun W => Below w.heap.size w W ∧ Kd.C k34 W Ax x.length x) (by kernel_rfl) hG ?_ ?_
    · intro vs W hG b hb
      have e4 : b.eval (.tmp 4) = .slice none 0 0 := eo hb (by kernel_rfl)
      have e5 : b.eval (.tmp 5) = .slice none 0 0 := eo hb (by kernel_rfl)
      have i19 := ei (d := 19) hb 0 (by kernel_rfl) rfl rfl (by simp)
      have i20 := ei (d := 20) hb 1 (by kernel_rfl) rfl rfl (by simp)
      have i21 := ei (d := 21) hb 2 (by kernel_rfl) rfl rfl (by simp)
      have i22 := ei (d := 22) hb 3 (by kernel_rfl) rfl rfl (by simp)
      have i23 := ei (d := 23) hb 4 (by kernel_rfl) rfl rfl (by simp)
      have i24 := ei (d := 24) hb 5 (by kernel_rfl) rfl rfl (by simp)
      have i25 := ei (d := 25) hb 6 (by kernel_rfl) rfl rfl (by simp)
      have i26 := ei (d := 26) hb 7 (by kernel_rfl) rfl rfl (by simp)
      have i27 := ei (d := 27) hb 8 (by kernel_rfl) rfl rfl (by simp)
      have i28 := ei (d := 28) hb 9 (by kernel_rfl) rfl rfl (by simp)
      have i29 := ei (d := 29) hb 10 (by kernel_rfl) rfl rfl (by simp)
      clear hb
      refine And.intro ?_ (And.intro ?_ (And.intro ?_ (And.intro ?_ (And.intro ?_ (And.intro ?_ (And.intro ?_ (And.intro ?_ (And.intro ?_ (And.intro ?_ (And.intro ?_ (And.intro ?_ (trivial))))))))))))
      · intro hp K hK
        refine g_no rfl ?_
        exact st_move (.inl rfl) (e4) (hK _ _ rfl hG (Below.refl _ _))
      · intro hp K hK
        refine g_no rfl ?_
        have e19 : b.eval (.tmp 19) = _ := i19.trans (hp 0 (by kernel_rfl))
        exact st_builtin rfl (by first | (simp only [List.map_toArray, List.map_cons, List.map_nil, eval_const, e19]; done) | (simp only [List.map_toArray, List.map_cons, List.map_nil, eval_const, e19]; rfl)) (fun cs => b_len 25 (by decide) cs _) (hK _ _ rfl hG (Below.refl _ _))
      · intro hp K hK
        refine g_no rfl ?_
        have e20 : b.eval (.tmp 20) = _ := i20.trans (hp 1 (by kernel_rfl))
        exact st_bin rfl (e20) (eval_const _) b_eql (hK _ _ rfl hG (Below.refl _ _))
      · intro hp K hK
        refine g_no rfl ?_
        have e21 : b.eval (.tmp 21) = _ := i21.trans (hp 2 (by kernel_rfl))
        exact st_move (.inl rfl) (e21) (hK _ _ rfl hG (Below.refl _ _))
      · intro hp K hK
        refine g_is (j := 3) (want := true) (c := ((0 : Nat) : Int) == 0) rfl (yielded_of (d := 22) rfl rfl (i22.trans (hp 3 (by kernel_rfl)))) (fun hb => ?_) (fun hb => hK _ _ (cond_no hb) hG (Below.refl _ _))
        exact st_move (.inl rfl) (e5) (hK _ _ (cond_yes hb).symm hG (Below.refl _ _))
      · intro hp K hK
        refine g_is (j := 3) (want := true) (c := ((0 : Nat) : Int) == 0) rfl (yielded_of (d := 22) rfl rfl (i22.trans (hp 3 (by kernel_rfl)))) (fun hb => ?_) (fun hb => hK _ _ (cond_no hb) hG (Below.refl _ _))
        have e23 : b.eval (.tmp 23) = _ := i23.trans (hp 4 (by kernel_rfl))
        replace e23 := e23.trans (cond_yes hb)
        exact st_builtin rfl (by first | (simp only [List.map_toArray, List.map_cons, List.map_nil, eval_const, e23]; done) | (simp only [List.map_toArray, List.map_cons, List.map_nil, eval_const, e23]; rfl)) (fun cs => b_len 26 (by decide) cs _) (hK _ _ (cond_yes hb).symm hG (Below.refl _ _))
      · intro hp K hK
        refine g_is (j := 3) (want := true) (c := ((0 : Nat) : Int) == 0) rfl (yielded_of (d := 22) rfl rfl (i22.trans (hp 3 (by kernel_rfl)))) (fun hb => ?_) (fun hb => hK _ _ (cond_no hb) hG (Below.refl _ _))
        have e24 : b.eval (.tmp 24) = _ := i24.trans (hp 5 (by kernel_rfl))
        replace e24 := e24.trans (cond_yes hb)
        exact st_bin rfl (e24) (eval_const _) b_eql (hK _ _ (cond_yes hb).symm hG (Below.refl _ _))
      · intro hp K hK
        refine g_no rfl ?_
        have e22 : b.eval (.tmp 22) = _ := i22.trans (hp 3 (by kernel_rfl))
        have e25 : b.eval (.tmp 25) = _ := i25.trans (hp 6 (by kernel_rfl))
        exact st_pick rfl (e22) (by first | (rw [e25]; exact pick_and) | (rw [show b.eval (Operand.tmp 25) = _ from eval_const _]; exact pick_and)) (hK _ _ rfl hG (Below.refl _ _))
      · intro hp K hK
        refine g_no rfl ?_
        have e26 : b.eval (.tmp 26) = _ := i26.trans (hp 7 (by kernel_rfl))
        exact st_move (.inl rfl) (e26) (hK _ _ rfl hG (Below.refl _ _))
      · intro hp K hK
        refine g_is (j := 8) (want := true) (c := (((0 : Nat) : Int) == 0) && (((0 : Nat) : Int) == 0)) rfl (yielded_of (d := 27) rfl rfl (i27.trans (hp 8 (by kernel_rfl)))) (fun hb => ?_) (fun hb => hK _ _ (cond_no hb) hG (Below.refl _ _))
        refine st_call rfl (by first | (simp only [List.map_toArray, List.map_cons, List.map_nil, eval_const]; done) | (simp only [List.map_toArray, List.map_cons, List.map_nil, eval_const]; rfl)) (by kernel_rfl) ?_
        refine (lives_is _).mono ?_
        rintro e w' ⟨rfl, hb'⟩
        exact ⟨_, rfl, hK _ _ (cond_yes hb).symm ⟨below_step hG.1 hb', Kd.C_below hG.2 hb'⟩ hb'⟩
      · intro hp K hK
        refine g_no rfl ?_
        have e27 : b.eval (.tmp 27) = _ := i27.trans (hp 8 (by kernel_rfl))
        have e28 : b.eval (.tmp 28) = _ := i28.trans (hp 9 (by kernel_rfl))
        exact st_pick rfl (e27) (by first | (rw [e28]; exact pick_and) | (rw [show b.eval (Operand.tmp 28) = _ from eval_const _]; exact pick_and)) (hK _ _ rfl hG (Below.refl _ _))
      · intro hp K hK
        refine g_no rfl ?_
        have e29 : b.eval (.tmp 29) = _ := i29.trans (hp 10 (by kernel_rfl))
        exact st_move (.inr rfl) (e29) (hK _ _ rfl hG (Below.refl _ _))
    intro vs W hG hp b hb
    have q11 : vs 11 = _ := hp 11 (by decide)
    clear hp
    simp only [fill, Act.put, List.append_eq, List.cons_append, List.nil_append, List.take_succ_cons, List.take_zero, List.setIfInBounds_toArray, List.set_cons_succ, List.set_cons_zero, Nat.reduceAdd, Nat.zero_add, q11] at hb
    subst hb
    refine wpList_nil ?_
    clear q11
    refine HK6.out _ _ ?_
    clear HK6
    have hc : (((((0 : Nat) : Int) == 0) && (((0 : Nat) : Int) == 0)) && true) = true := rfl
    rw [hc]
    clear hc
    have HG := Lib.hid hG.1
    clear hG
    go_wp2
    go_ret
    exact ⟨rfl, HG.out⟩
  apply wp_seq_k
  intro K7 hK7
  have HK7 := Lib.hid hK7
  clear hK7
  refine wp_listed (R := fun W W' => Below W.heap.size W W') 2 [.val (.slice Ax x.length cx), layS (x)] (fun W => Below w.heap.size w W ∧ Kd.C k34 W Ax x.length x) (by kernel_rfl) hG ?_ ?_
  · intro vs W hG b hb
    have e3 : b.eval (.tmp 3) = .slice Ax x.length cx := eo hb (by kernel_rfl)
    have i12 := ei (d := 12) hb 0 (by kernel_rfl) rfl rfl (by simp)
    clear hb
    refine And.intro ?_ (And.intro ?_ (trivial))
    · intro hp K hK
      refine g_no rfl ?_
      exact st_move (.inl rfl) (e3) (hK _ _ rfl hG (Below.refl _ _))
    · intro hp K hK
      refine g_no rfl ?_
      have e12 : b.eval (.tmp 12) = _ := i12.trans (hp 0 (by kernel_rfl))
      refine st_call rfl (by first | (simp only [List.map_toArray, List.map_cons, List.map_nil, eval_const, e12]; done) | (simp only [List.map_toArray, List.map_cons, List.map_nil, eval_const, e12]; rfl)) (by kernel_rfl) ?_
      refine (layout_good Ax cx x _ HN.out (fun x hx => (HO.out x hx).1) (fun x hx => (HO.out x hx).2) hG.2 ho).mono ?_
      rintro e w' ⟨far, adb, cb, gf, rfl, h1, h2, hb'⟩; have hP : layP x far adb cb gf w' := ⟨h1, h2⟩
      exact ⟨_, rfl, hK _ _ ⟨_, _, _, _, rfl, hP⟩ ⟨below_step hG.1 hb', Kd.C_below hG.2 hb'⟩ hb'⟩
  intro vs W hG hp b hb
  have q0 : vs 0 = _ := hp 0 (by decide)
  have q1 : ∃ far adb cb gf, (vs 1) = layV (x) adb cb gf ∧ layP (x) far adb cb gf W := hp 1 (by decide)
  clear hp
  simp only [fill, Act.put, List.append_eq, List.cons_append, List.nil_append, List.take_succ_cons, List.take_zero, List.setIfInBounds_toArray, List.set_cons_succ, List.set_cons_zero, Nat.reduceAdd, Nat.zero_add, q0] at hb
  subst hb
  simp only [List.append_eq, List.cons_append, List.nil_append, List.drop_succ_cons, List.drop_zero]
  clear q0
  obtain ⟨far, adb, cb, gf, hv, hP⟩ := q1
  rw [hv]
  clear hv
  have HG := Lib.hid (And.intro hG hP)
  clear hG hP
  unfold layV
  go_wp2
  have hG := HG.out
  clear HG
  refine HK7.out _ _ ?_
  clear HK7
  apply wp_seq_k
  intro K8 hK8
  have HK8 := Lib.hid hK8
  clear hK8
  apply wp_seq_k
  intro K9 hK9
  have HK9 := Lib.hid hK9
  clear hK9
  refine wp_listed (R := fun W W' => Below W.heap.size W W') 2 [.val (.int .i64 0), .val (.bool (0 != 0))] (fun W => (Below w.heap.size w W ∧ Kd.C k34 W Ax x.length x) ∧ layP x far adb cb gf W) (by kernel_rfl) hG ?_ ?_
  · intro vs W hG b hb
    have e6 : b.eval (.tmp 6) = .int .i64 0 := eo hb (by kernel_rfl)
    have i17 := ei (d := 17) hb 0 (by kernel_rfl) rfl rfl (by simp)
    clear hb
    refine And.intro ?_ (And.intro ?_ (trivial))
    · intro hp K hK
      refine g_no rfl ?_
      exact st_move (.inl rfl) (e6) (hK _ _ rfl hG (Below.refl _ _))
    · intro hp K hK
      refine g_no rfl ?_
      have e17 : b.eval (.tmp 17) = _ := i17.trans (hp 0 (by kernel_rfl))
      exact st_bin rfl (e17) (eval_const _) b_neq (hK _ _ rfl hG (Below.refl _ _))
  intro vs W hG hp b hb
  have q1 : vs 1 = _ := hp 1 (by decide)
  clear hp
  simp only [fill, Act.put, List.append_eq, List.cons_append, List.nil_append, List.take_succ_cons, List.take_zero, List.setIfInBounds_toArray, List.set_cons_succ, List.set_cons_zero, Nat.reduceAdd, Nat.zero_add, q1] at hb
  subst hb
  refine wpList_nil ?_
  clear q1
  refine HK9.out _ _ ?_
  clear HK9
  apply wp_cond_false rfl
  apply wp_skip
  simp only [Exit.then]
  refine HK8.out _ _ ?_
  clear HK8
  apply wp_seq_k
  intro K10 hK10
  have HK10 := Lib.hid hK10
  clear hK10
  apply wp_seq_k
  intro K11 hK11
  have HK11 := Lib.hid hK11
  clear hK11
  refine wp_listed (R := fun W W' => Below W.heap.size W W') 13 [.val (.slice (some adb) (x.length + 1) cb), .val (.int .i64 ((x.length + 1 : Nat) : Int)), .val (.slice Ax x.length cx), .val (.int .i64 ((x.length : Nat) : Int)), .val (.int .i64 ((x.length + 1 : Nat) : Int)), .val (.bool (((x.length + 1 : Nat) : Int) != ((x.length + 1 : Nat) : Int))), .val (.bool (((x.length + 1 : Nat) : Int) != ((x.length + 1 : Nat) : Int))), .val ((bif ((((x.length + 1 : Nat) : Int) != ((x.length + 1 : Nat) : Int)) == false) then (.slice (some ⟨gf, 0, none⟩) x.length x.length) else undef)), .val ((bif ((((x.length + 1 : Nat) : Int) != ((x.length + 1 : Nat) : Int)) == false) then (.int .i64 ((x.length : Nat) : Int)) else undef)), .val ((bif ((((x.length + 1 : Nat) : Int) != ((x.length + 1 : Nat) : Int)) == false) then (.slice Ax x.length cx) else undef)), .val ((bif ((((x.length + 1 : Nat) : Int) != ((x.length + 1 : Nat) : Int)) == false) then (.int .i64 ((x.length : Nat) : Int)) else undef)), .val ((bif ((((x.length + 1 : Nat) : Int) != ((x.length + 1 : Nat) : Int)) == false) then (.bool (((x.length : Nat) : Int) != ((x.length : Nat) : Int))) else undef)), .val (.bool ((((x.length + 1 : Nat) : Int) != ((x.length + 1 : Nat) : Int)) || (((x.length : Nat) : Int) != ((x.length : Nat) : Int))))] (fun W => (Below w.heap.size w W ∧ Kd.C k34 W Ax x.length x) ∧ layP x far adb cb gf W) (by kernel_rfl) hG ?_ ?_
  · intro vs W hG b hb
    have e3 : b.eval (.tmp 3) = .slice Ax x.length cx := eo hb (by kernel_rfl)
    have e4 : b.eval (.tmp 4) = .slice (some adb) (x.length + 1) cb := eo hb (by kernel_rfl)
    have e5 : b.eval (.tmp 5) = .slice (some ⟨gf, 0, none⟩) x.length x.length := eo hb (by kernel_rfl)
    have i30 := ei (d := 30) hb 0 (by kernel_rfl) rfl rfl (by simp)
    have i31 := ei (d := 31) hb 1 (by kernel_rfl) rfl rfl (by simp)
    have i32 := ei (d := 32) hb 2 (by kernel_rfl) rfl rfl (by simp)
    have i33 := ei (d := 33) hb 3 (by kernel_rfl) rfl rfl (by simp)
    have i34 := ei (d := 34) hb 4 (by kernel_rfl) rfl rfl (by simp)
    have i35 := ei (d := 35) hb 5 (by kernel_rfl) rfl rfl (by simp)
    have i36 := ei (d := 36) hb 6 (by kernel_rfl) rfl rfl (by simp)
    have i37 := ei (d := 37) hb 7 (by kernel_rfl) rfl rfl (by simp)
    have i38 := ei (d := 38) hb 8 (by kernel_rfl) rfl rfl (by simp)
    have i39 := ei (d := 39) hb 9 (by kernel_rfl) rfl rfl (by simp)
    have i40 := ei (d := 40) hb 10 (by kernel_rfl) rfl rfl (by simp)
    have i41 := ei (d := 41) hb 11 (by kernel_rfl) rfl rfl (by simp)
    clear hb
    refine And.intro ?_ (And.intro ?_ (And.intro ?_ (And.intro ?_ (And.intro ?_ (And.intro ?_ (And.intro ?_ (And.intro ?_ (And.intro ?_ (And.intro ?_ (And.intro ?_ (And.intro ?_ (And.intro ?_ (trivial)))))))))))))
    · intro hp K hK
      refine g_no rfl ?_
      exact st_move (.inl rfl) (e4) (hK _ _ rfl hG (Below.refl _ _))
    · intro hp K hK
      refine g_no rfl ?_
      have e30 : b.eval (.tmp 30) = _ := i30.trans (hp 0 (by kernel_rfl))
      exact st_builtin rfl (by first | (simp only [List.map_toArray, List.map_cons, List.map_nil, eval_const, e30]; done) | (simp only [List.map_toArray, List.map_cons, List.map_nil, eval_const, e30]; rfl)) (fun cs => b_len 25 (by decide) cs _) (hK _ _ rfl hG (Below.refl _ _))
    · intro hp K hK
      refine g_no rfl ?_
      exact st_move (.inl rfl) (e3) (hK _ _ rfl hG (Below.refl _ _))
    · intro hp K hK
      refine g_no rfl ?_
      have e32 : b.eval (.tmp 32) = _ := i32.trans (hp 2 (by kernel_rfl))
      exact st_builtin rfl (by first | (simp only [List.map_toArray, List.map_cons, List.map_nil, eval_const, e32]; done) | (simp only [List.map_toArray, List.map_cons, List.map_nil, eval_const, e32]; rfl)) (fun cs => b_len 23 (by decide) cs _) (hK _ _ rfl hG (Below.refl _ _))
    · intro hp K hK
      refine g_no rfl ?_
      have e33 : b.eval (.tmp 33) = _ := i33.trans (hp 3 (by kernel_rfl))
      exact st_bin rfl (e33) (eval_const _) (b_add (IntWalk.i64_in _ (by have := HN.out; omega))) (hK _ _ rfl hG (Below.refl _ _))
    · intro hp K hK
      refine g_no rfl ?_
      have e31 : b.eval (.tmp 31) = _ := i31.trans (hp 1 (by kernel_rfl))
      have e34 : b.eval (.tmp 34) = _ := i34.trans (hp 4 (by kernel_rfl))
      exact st_bin rfl (e31) (e34) b_neq (hK _ _ rfl hG (Below.refl _ _))
    · intro hp K hK
      refine g_no rfl ?_
      have e35 : b.eval (.tmp 35) = _ := i35.trans (hp 5 (by kernel_rfl))
      exact st_move (.inl rfl) (e35) (hK _ _ rfl hG (Below.refl _ _))
    · intro hp K hK
      refine g_is (j := 6) (want := false) (c := ((x.length + 1 : Nat) : Int) != ((x.length + 1 : Nat) : Int)) rfl (yielded_of (d := 36) rfl rfl (i36.trans (hp 6 (by kernel_rfl)))) (fun hb => ?_) (fun hb => hK _ _ (cond_no hb) hG (Below.refl _ _))
      exact st_move (.inl rfl) (e5) (hK _ _ (cond_yes hb).symm hG (Below.refl _ _))
    · intro hp K hK
      refine g_is (j := 6) (want := false) (c := ((x.length + 1 : Nat) : Int) != ((x.length + 1 : Nat) : Int)) rfl (yielded_of (d := 36) rfl rfl (i36.trans (hp 6 (by kernel_rfl)))) (fun hb => ?_) (fun hb => hK _ _ (cond_no hb) hG (Below.refl _ _))
      have e37 : b.eval (.tmp 37) = _ := i37.trans (hp 7 (by kernel_rfl))
      replace e37 := e37.trans (cond_yes hb)
      exact st_builtin rfl (by first | (simp only [List.map_toArray, List.map_cons, List.map_nil, eval_const, e37]; done) | (simp only [List.map_toArray, List.map_cons, List.map_nil, eval_const, e37]; rfl)) (fun cs => b_len 26 (by decide) cs _) (hK _ _ (cond_yes hb).symm hG (Below.refl _ _))
    · intro hp K hK
      refine g_is (j := 6) (want := false) (c := ((x.length + 1 : Nat) : Int) != ((x.length + 1 : Nat) : Int)) rfl (yielded_of (d := 36) rfl rfl (i36.trans (hp 6 (by kernel_rfl)))) (fun hb => ?_) (fun hb => hK _ _ (cond_no hb) hG (Below.refl _ _))
      exact st_move (.inl rfl) (e3) (hK _ _ (cond_yes hb).symm hG (Below.refl _ _))
    · intro hp K hK
      refine g_is (j := 6) (want := false) (c := ((x.length + 1 : Nat) : Int) != ((x.length + 1 : Nat) : Int)) rfl (yielded_of (d := 36) rfl rfl (i36.trans (hp 6 (by kernel_rfl)))) (fun hb => ?_) (fun hb => hK _ _ (cond_no hb) hG (Below.refl _ _))
      have e39 : b.eval (.tmp 39) = _ := i39.trans (hp 9 (by kernel_rfl))
      replace e39 := e39.trans (cond_yes hb)
      exact st_builtin rfl (by first | (simp only [List.map_toArray, List.map_cons, List.map_nil, eval_const, e39]; done) | (simp only [List.map_toArray, List.map_cons, List.map_nil, eval_const, e39]; rfl)) (fun cs => b_len 23 (by decide) cs _) (hK _ _ (cond_yes hb).symm hG (Below.refl _ _))
    · intro hp K hK
      refine g_is (j := 6) (want := false) (c := ((x.length + 1 : Nat) : Int) != ((x.length + 1 : Nat) : Int)) rfl (yielded_of (d := 36) rfl rfl (i36.trans (hp 6 (by kernel_rfl)))) (fun hb => ?_) (fun hb => hK _ _ (cond_no hb) hG (Below.refl _ _))
      have e38 : b.eval (.tmp 38) = _ := i38.trans (hp 8 (by kernel_rfl))
      replace e38 := e38.trans (cond_yes hb)
      have e40 : b.eval (.tmp 40) = _ := i40.trans (hp 10 (by kernel_rfl))
      replace e40 := e40.trans (cond_yes hb)
      exact st_bin rfl (e38) (e40) b_neq (hK _ _ (cond_yes hb).symm hG (Below.refl _ _))
    · intro hp K hK
      refine g_no rfl ?_
      have e36 : b.eval (.tmp 36) = _ := i36.trans (hp 6 (by kernel_rfl))
      have e41 : b.eval (.tmp 41) = _ := i41.trans (hp 11 (by kernel_rfl))
      exact st_pick rfl (e36) (by first | (rw [e41]; exact pick_or) | (rw [show b.eval (Operand.tmp 41) = _ from eval_const _]; exact pick_or)) (hK _ _ rfl hG (Below.refl _ _))
  intro vs W hG hp b hb
  have q12 : vs 12 = _ := hp 12 (by decide)
  clear hp
  simp only [fill, Act.put, List.append_eq, List.cons_append, List.nil_append, List.take_succ_cons, List.take_zero, List.setIfInBounds_toArray, List.set_cons_succ, List.set_cons_zero, Nat.reduceAdd, Nat.zero_add, q12] at hb
  subst hb
  refine wpList_nil ?_
  clear q12
  refine HK11.out _ _ ?_
  clear HK11
  have hc : ((((x.length + 1 : Nat) : Int) != ((x.length + 1 : Nat) : Int)) || (((x.length : Nat) : Int) != ((x.length : Nat) : Int))) = false := by simp
  rw [hc]
  clear hc
  apply wp_cond_false rfl
  apply wp_skip
  simp only [Exit.then]
  refine HK10.out _ _ ?_
  clear HK10
  apply wp_seq_k
  intro K12 hK12
  have HK12 := Lib.hid hK12
  clear hK12
  apply wp_seq_k
  intro K13 hK13
  have HK13 := Lib.hid hK13
  clear hK13
  have HG := Lib.hid hG
  clear hG
  go_wp2
  refine HK13.out _ _ ?_
  clear HK13
  apply wp_block
  refine wp_loopS [7, 8, 43, 44, 45, 46, 47, 48, 49, 50, 51, 52, 53, 54, 55, 56, 57, 58, 59, 60, 61, 62, 63, 64, 65, 66, 67, 68, 69, 70, 71] (fun sl W => ∃ i : Nat, sl 7 = .int .i64 (i : Int) ∧ i ≤ x.length ∧ (Below w.heap.size w W ∧ Kd.C k34 W Ax x.length x) ∧ layP x far adb cb gf W) (fun sl W => Msr (x.length : Int) (sl 7)) ⟨0, rfl, Nat.zero_le _, HG.out⟩ ?_
  clear HG
  intro vs W b hb hI
  obtain ⟨i, hsl, hi, hG⟩ := hI
  simp only [setSlots, Act.put, List.setIfInBounds_toArray, List.set_cons_succ, List.set_cons_zero] at hb
  subst hb
  replace hsl : vs 7 = .int .i64 (i : Int) := hsl
  rw [hsl]
  clear hsl
  apply wp_seq_k
  intro K14 hK14
  have HK14 := Lib.hid hK14
  clear hK14
  apply wp_seq_k
  intro K15 hK15
  have HK15 := Lib.hid hK15
  clear hK15
  refine wp_listed (R := fun W W' => Below W.heap.size W W') 4 [.val (.int .i64 (i : Int)), .val (.slice Ax x.length cx), .val (.int .i64 ((x.length : Nat) : Int)), .val (.bool (decide ((i : Int) < ((x.length : Nat) : Int))))] (fun W => (Below w.heap.size w W ∧ Kd.C k34 W Ax x.length x) ∧ layP x far adb cb gf W) (by kernel_rfl) hG ?_ ?_
  · intro vs W hG b hb
    have e3 : b.eval (.tmp 3) = .slice Ax x.length cx := eo hb (by kernel_rfl)
    have e7 : b.eval (.tmp 7) = .int .i64 (i : Int) := eo hb (by kernel_rfl)
    have i43 := ei (d := 43) hb 0 (by kernel_rfl) rfl rfl (by simp)
    have i44 := ei (d := 44) hb 1 (by kernel_rfl) rfl rfl (by simp)
    have i45 := ei (d := 45) hb 2 (by kernel_rfl) rfl rfl (by simp)
    clear hb
    refine And.intro ?_ (And.intro ?_ (And.intro ?_ (And.intro ?_ (trivial))))
    · intro hp K hK
      refine g_no rfl ?_
      exact st_move (.inl rfl) (e7) (hK _ _ rfl hG (Below.refl _ _))
    · intro hp K hK
      refine g_no rfl ?_
      exact st_move (.inl rfl) (e3) (hK _ _ rfl hG (Below.refl _ _))
    · intro hp K hK
      refine g_no rfl ?_
      have e44 : b.eval (.tmp 44) = _ := i44.trans (hp 1 (by kernel_rfl))
      exact st_builtin rfl (by first | (simp only [List.map_toArray, List.map_cons, List.map_nil, eval_const, e44]; done) | (simp only [List.map_toArray, List.map_cons, List.map_nil, eval_const, e44]; rfl)) (fun cs => b_len 23 (by decide) cs _) (hK _ _ rfl hG (Below.refl _ _))
    · intro hp K hK
      refine g_no rfl ?_
      have e43 : b.eval (.tmp 43) = _ := i43.trans (hp 0 (by kernel_rfl))
      have e45 : b.eval (.tmp 45) = _ := i45.trans (hp 2 (by kernel_rfl))
      exact st_bin rfl (e43) (e45) b_lss (hK _ _ rfl hG (Below.refl _ _))
  intro vs W hG hp b hb
  have q3 : vs 3 = _ := hp 3 (by decide)
  clear hp
  simp only [fill, Act.put, List.append_eq, List.cons_append, List.nil_append, List.take_succ_cons, List.take_zero, List.setIfInBounds_toArray, List.set_cons_succ, List.set_cons_zero, Nat.reduceAdd, Nat.zero_add, q3] at hb
  subst hb
  refine wpList_nil ?_
  clear q3
  refine HK15.out _ _ ?_
  clear HK15
  refine wp_cond_split rfl (fun hlt => ?_) (fun hlt => ?_)
  rotate_left
  · clear hlt
    apply wp_exit
    simp only [Exit.inBlock, Exit.then, ↓reduceIte]
    refine HK12.out _ _ ?_
    clear HK12
    apply wp_seq_k
    intro K16 hK16
    have HK16 := Lib.hid hK16
    clear hK16
    refine wp_listed (R := fun W W' => Below W.heap.size W W') 2 [.val (.bool true), .val (.bool true)] (fun W => (Below w.heap.size w W ∧ Kd.C k34 W Ax x.length x) ∧ layP x far adb cb gf W) (by kernel_rfl) hG ?_ ?_
    · intro vs W hG b hb
      have i72 := ei (d := 72) hb 0 (by kernel_rfl) rfl rfl (by simp)
      clear hb
      refine And.intro ?_ (And.intro ?_ (trivial))
      · intro hp K hK
        refine g_no rfl ?_
        refine st_call rfl (by first | (simp only [List.map_toArray, List.map_cons, List.map_nil, eval_const]; done) | (simp only [List.map_toArray, List.map_cons, List.map_nil, eval_const]; rfl)) (by kernel_rfl) ?_
        refine (lives_is _).mono ?_
        rintro e w' ⟨rfl, hb'⟩
        exact ⟨_, rfl, hK _ _ rfl ⟨⟨below_step hG.1.1 hb', Kd.C_below hG.1.2 hb'⟩, layP_below hG.2 hb'⟩ hb'⟩
      · intro hp K hK
        refine g_no rfl ?_
        have e72 : b.eval (.tmp 72) = _ := i72.trans (hp 0 (by kernel_rfl))
        exact st_move (.inr rfl) (e72) (hK _ _ rfl hG (Below.refl _ _))
    intro vs W hG hp b hb
    have q1 : vs 1 = _ := hp 1 (by decide)
    clear hp
    simp only [fill, Act.put, List.append_eq, List.cons_append, List.nil_append, List.take_succ_cons, List.take_zero, List.setIfInBounds_toArray, List.set_cons_succ, List.set_cons_zero, Nat.reduceAdd, Nat.zero_add, q1] at hb
    subst hb
    refine wpList_nil ?_
    clear q1
    refine HK16.out _ _ ?_
    clear HK16
    have HG := Lib.hid hG.1.1
    clear hG
    go_wp2
    go_ret
    exact ⟨rfl, HG.out⟩
  have hil : i < x.length := by have := of_decide_eq_true hlt; omega
  clear hlt
  apply wp_skip
  simp only [Exit.then]
  refine HK14.out _ _ ?_
  clear HK14
  obtain ⟨ad, hAd, -⟩ := ld_fld hG.1.2 (q := 0) hil rfl
  subst hAd
  apply wp_seq_k
  intro K17 hK17
  have HK17 := Lib.hid hK17
  clear hK17
  apply wp_block
  apply wp_seq_k
  intro K18 hK18
  have HK18 := Lib.hid hK18
  clear hK18
  refine wp_listed (R := fun W W' => Below W.heap.size W W') 1 [.val (.int .i64 0)] (fun W => (Below w.heap.size w W ∧ Kd.C k34 W (some ad) x.length x) ∧ layP x far adb cb gf W) (by kernel_rfl) hG ?_ ?_
  · intro vs W hG b hb
    clear hb
    refine And.intro ?_ (trivial)
    · intro hp K hK
      refine g_no rfl ?_
      exact st_move (.inr rfl) (eval_const _) (hK _ _ rfl hG (Below.refl _ _))
  intro vs W hG hp b hb
  have q0 : vs 0 = _ := hp 0 (by decide)
  clear hp
  simp only [fill, Act.put, List.append_eq, List.cons_append, List.nil_append, List.take_succ_cons, List.take_zero, List.setIfInBounds_toArray, List.set_cons_succ, List.set_cons_zero, Nat.reduceAdd, Nat.zero_add, q0] at hb
  subst hb
  refine wpList_nil ?_
  clear q0
  refine HK18.out _ _ ?_
  clear HK18
  apply wp_seq_k
  intro K19 hK19
  have HK19 := Lib.hid hK19
  clear hK19
  refine wp_listed (R := fun W W' => Below W.heap.size W W') 13 [.val (.slice (some ad) x.length cx), .val (.int .i64 (i : Int)), .val (.pointer (some (ad.add (i * 7)))), .val (.pointer (some ((ad.add (i * 7)).add 0))), .val (.int .i64 (x.getD i z34).f0), .val (.bool (((x.getD i z34).f0) == 3)), .val (.bool (((x.getD i z34).f0) == 3)), .val ((bif ((((x.getD i z34).f0) == 3) == true) then (.slice (some ⟨gf, 0, none⟩) x.length x.length) else undef)), .val ((bif ((((x.getD i z34).f0) == 3) == true) then (.int .i64 (i : Int)) else undef)), .val ((bif ((((x.getD i z34).f0) == 3) == true) then (.pointer (some ⟨gf, 0 + i, none⟩)) else undef)), .val ((bif ((((x.getD i z34).f0) == 3) == true) then (.bool (far i)) else undef)), .val ((bif ((((x.getD i z34).f0) == 3) == true) then (.bool (!(far i))) else undef)), .val (.bool ((((x.getD i z34).f0) == 3) && (!(far i))))] (fun W => (Below w.heap.size w W ∧ Kd.C k34 W (some ad) x.length x) ∧ layP x far adb cb gf W) (by kernel_rfl) hG ?_ ?_
  · intro vs W hG b hb
    have e3 : b.eval (.tmp 3) = .slice (some ad) x.length cx := eo hb (by kernel_rfl)
    have e5 : b.eval (.tmp 5) = .slice (some ⟨gf, 0, none⟩) x.length x.length := eo hb (by kernel_rfl)
    have e7 : b.eval (.tmp 7) = .int .i64 (i : Int) := eo hb (by kernel_rfl)
    have i49 := ei (d := 49) hb 0 (by kernel_rfl) rfl rfl (by simp)
    have i50 := ei (d := 50) hb 1 (by kernel_rfl) rfl rfl (by simp)
    have i51 := ei (d := 51) hb 2 (by kernel_rfl) rfl rfl (by simp)
    have i52 := ei (d := 52) hb 3 (by kernel_rfl) rfl rfl (by simp)
    have i53 := ei (d := 53) hb 4 (by kernel_rfl) rfl rfl (by simp)
    have i54 := ei (d := 54) hb 5 (by kernel_rfl) rfl rfl (by simp)
    have i55 := ei (d := 55) hb 6 (by kernel_rfl) rfl rfl (by simp)
    have i56 := ei (d := 56) hb 7 (by kernel_rfl) rfl rfl (by simp)
    have i57 := ei (d := 57) hb 8 (by kernel_rfl) rfl rfl (by simp)
    have i58 := ei (d := 58) hb 9 (by kernel_rfl) rfl rfl (by simp)
    have i59 := ei (d := 59) hb 10 (by kernel_rfl) rfl rfl (by simp)
    have i60 := ei (d := 60) hb 11 (by kernel_rfl) rfl rfl (by simp)
    clear hb
    refine And.intro ?_ (And.intro ?_ (And.intro ?_ (And.intro ?_ (And.intro ?_ (And.intro ?_ (And.intro ?_ (And.intro ?_ (And.intro ?_ (And.intro ?_ (And.intro ?_ (And.intro ?_ (And.intro ?_ (trivial)))))))))))))
    · intro hp K hK
      refine g_no rfl ?_
      exact st_move (.inl rfl) (e3) (hK _ _ rfl hG (Below.refl _ _))
    · intro hp K hK
      refine g_no rfl ?_
      exact st_move (.inl rfl) (e7) (hK _ _ rfl hG (Below.refl _ _))
    · intro hp K hK
      refine g_no rfl ?_
      have e49 : b.eval (.tmp 49) = _ := i49.trans (hp 0 (by kernel_rfl))
      have e50 : b.eval (.tmp 50) = _ := i50.trans (hp 1 (by kernel_rfl))
      exact st_index rfl (e49) (e50) (ix23 hil _) (hK _ _ rfl hG (Below.refl _ _))
    · intro hp K hK
      refine g_no rfl ?_
      have e51 : b.eval (.tmp 51) = _ := i51.trans (hp 2 (by kernel_rfl))
      exact st_field rfl (e51) (fa34k _ _) (hK _ _ rfl hG (Below.refl _ _))
    · intro hp K hK
      refine g_no rfl ?_
      have e52 : b.eval (.tmp 52) = _ := i52.trans (hp 3 (by kernel_rfl))
      exact st_load rfl (e52) (by obtain ⟨a', ha', hl'⟩ := ld_fld hG.1.2 (q := 0) hil rfl; rw [Option.some.inj ha']; exact ld_cell 3 (by kernel_rfl) hl') (hK _ _ rfl hG (Below.refl _ _))
    · intro hp K hK
      refine g_no rfl ?_
      have e53 : b.eval (.tmp 53) = _ := i53.trans (hp 4 (by kernel_rfl))
      exact st_bin rfl (e53) (eval_const _) b_eql (hK _ _ rfl hG (Below.refl _ _))
    · intro hp K hK
      refine g_no rfl ?_
      have e54 : b.eval (.tmp 54) = _ := i54.trans (hp 5 (by kernel_rfl))
      exact st_move (.inl rfl) (e54) (hK _ _ rfl hG (Below.refl _ _))
    · intro hp K hK
      refine g_is (j := 6) (want := true) (c := ((x.getD i z34).f0) == 3) rfl (yielded_of (d := 55) rfl rfl (i55.trans (hp 6 (by kernel_rfl)))) (fun hb => ?_) (fun hb => hK _ _ (cond_no hb) hG (Below.refl _ _))
      exact st_move (.inl rfl) (e5) (hK _ _ (cond_yes hb).symm hG (Below.refl _ _))
    · intro hp K hK
      refine g_is (j := 6) (want := true) (c := ((x.getD i z34).f0) == 3) rfl (yielded_of (d := 55) rfl rfl (i55.trans (hp 6 (by kernel_rfl)))) (fun hb => ?_) (fun hb => hK _ _ (cond_no hb) hG (Below.refl _ _))
      exact st_move (.inl rfl) (e7) (hK _ _ (cond_yes hb).symm hG (Below.refl _ _))
    · intro hp K hK
      refine g_is (j := 6) (want := true) (c := ((x.getD i z34).f0) == 3) rfl (yielded_of (d := 55) rfl rfl (i55.trans (hp 6 (by kernel_rfl)))) (fun hb => ?_) (fun hb => hK _ _ (cond_no hb) hG (Below.refl _ _))
      have e56 : b.eval (.tmp 56) = _ := i56.trans (hp 7 (by kernel_rfl))
      replace e56 := e56.trans (cond_yes hb)
      have e57 : b.eval (.tmp 57) = _ := i57.trans (hp 8 (by kernel_rfl))
      replace e57 := e57.trans (cond_yes hb)
      exact st_index rfl (e56) (e57) (by have h := ix26 (ad := ⟨gf, 0, none⟩) (c := x.length) hil W; rwa [Addr.add_mid] at h) (hK _ _ (cond_yes hb).symm hG (Below.refl _ _))
    · intro hp K hK
      refine g_is (j := 6) (want := true) (c := ((x.getD i z34).f0) == 3) rfl (yielded_of (d := 55) rfl rfl (i55.trans (hp 6 (by kernel_rfl)))) (fun hb => ?_) (fun hb => hK _ _ (cond_no hb) hG (Below.refl _ _))
      have e58 : b.eval (.tmp 58) = _ := i58.trans (hp 9 (by kernel_rfl))
      replace e58 := e58.trans (cond_yes hb)
      exact st_load rfl (e58) (by obtain ⟨a', ha', hl'⟩ := ld_far hG.2.1.2.2 hil; rw [← Option.some.inj ha', Addr.add_mid] at hl'; exact ld_cell 4 (by kernel_rfl) hl') (hK _ _ (cond_yes hb).symm hG (Below.refl _ _))
    · intro hp K hK
      refine g_is (j := 6) (want := true) (c := ((x.getD i z34).f0) == 3) rfl (yielded_of (d := 55) rfl rfl (i55.trans (hp 6 (by kernel_rfl)))) (fun hb => ?_) (fun hb => hK _ _ (cond_no hb) hG (Below.refl _ _))
      have e59 : b.eval (.tmp 59) = _ := i59.trans (hp 10 (by kernel_rfl))
      replace e59 := e59.trans (cond_yes hb)
      exact st_un rfl (e59) u_not (hK _ _ (cond_yes hb).symm hG (Below.refl _ _))
    · intro hp K hK
      refine g_no rfl ?_
      have e55 : b.eval (.tmp 55) = _ := i55.trans (hp 6 (by kernel_rfl))
      have e60 : b.eval (.tmp 60) = _ := i60.trans (hp 11 (by kernel_rfl))
      exact st_pick rfl (e55) (by first | (rw [e60]; exact pick_and) | (rw [show b.eval (Operand.tmp 60) = _ from eval_const _]; exact pick_and)) (hK _ _ rfl hG (Below.refl _ _))
  intro vs W hG hp b hb
  have q12 : vs 12 = _ := hp 12 (by decide)
  clear hp
  simp only [fill, Act.put, List.append_eq, List.cons_append, List.nil_append, List.take_succ_cons, List.take_zero, List.setIfInBounds_toArray, List.set_cons_succ, List.set_cons_zero, Nat.reduceAdd, Nat.zero_add, q12] at hb
  subst hb
  refine wpList_nil ?_
  clear q12
  refine HK19.out _ _ ?_
  clear HK19
  have hinc : IntKind.i64.wrap ((i : Int) + 1) = (i : Int) + 1 := IntWalk.i64_in _ (by have := HN.out; omega)
  refine wp_cond_split rfl (fun hk => ?_) (fun hk => ?_)
  · skip
    have hk2 : (x.getD i z34).f0 = 3 ∧ far i = false := by
      rw [Bool.and_eq_true] at hk
      exact ⟨eq_of_beq hk.1, by simpa using hk.2⟩
    have hnm : nameB (x.getD i z34) = true := by unfold nameB; rw [hk2.1]; rfl
    have hlb := ho.2.2 i hil hnm
    have hgd := hG.2.2.1 i hil hk2.1 hk2.2
    clear hk hnm
    apply wp_seq_k
    intro K20 hK20
    have HK20 := Lib.hid hK20
    clear hK20
    refine wp_listed (R := fun W W' => Below W.heap.size W W') 5 [.val (.slice (some ad) x.length cx), .val (.slice (some adb) (x.length + 1) cb), .val (.int .i64 (i : Int)), .val (.int .i64 (off x far i)), .val (.int .i64 (off x far i))] (fun W => (Below w.heap.size w W ∧ Kd.C k34 W (some ad) x.length x) ∧ layP x far adb cb gf W) (by kernel_rfl) hG ?_ ?_
    · intro vs W hG b hb
      have e3 : b.eval (.tmp 3) = .slice (some ad) x.length cx := eo hb (by kernel_rfl)
      have e4 : b.eval (.tmp 4) = .slice (some adb) (x.length + 1) cb := eo hb (by kernel_rfl)
      have e7 : b.eval (.tmp 7) = .int .i64 (i : Int) := eo hb (by kernel_rfl)
      have i62 := ei (d := 62) hb 0 (by kernel_rfl) rfl rfl (by simp)
      have i63 := ei (d := 63) hb 1 (by kernel_rfl) rfl rfl (by simp)
      have i64 := ei (d := 64) hb 2 (by kernel_rfl) rfl rfl (by simp)
      have i65 := ei (d := 65) hb 3 (by kernel_rfl) rfl rfl (by simp)
      clear hb
      refine And.intro ?_ (And.intro ?_ (And.intro ?_ (And.intro ?_ (And.intro ?_ (trivial)))))
      · intro hp K hK
        refine g_no rfl ?_
        exact st_move (.inl rfl) (e3) (hK _ _ rfl hG (Below.refl _ _))
      · intro hp K hK
        refine g_no rfl ?_
        exact st_move (.inl rfl) (e4) (hK _ _ rfl hG (Below.refl _ _))
      · intro hp K hK
        refine g_no rfl ?_
        exact st_move (.inl rfl) (e7) (hK _ _ rfl hG (Below.refl _ _))
      · intro hp K hK
        refine g_no rfl ?_
        have e62 : b.eval (.tmp 62) = _ := i62.trans (hp 0 (by kernel_rfl))
        have e63 : b.eval (.tmp 63) = _ := i63.trans (hp 1 (by kernel_rfl))
        have e64 : b.eval (.tmp 64) = _ := i64.trans (hp 2 (by kernel_rfl))
        refine st_call rfl (by first | (simp only [List.map_toArray, List.map_cons, List.map_nil, eval_const, e62, e63, e64]; done) | (simp only [List.map_toArray, List.map_cons, List.map_nil, eval_const, e62, e63, e64]; rfl)) (by kernel_rfl) ?_
        refine (by_is (some ad) (some adb) cx cb x far i _ HN.out hcx ho.2.1 hil hlb hG.1.2 hG.2.1.2.1).mono ?_
        rintro e w' ⟨rfl, hb'⟩
        exact ⟨_, rfl, hK _ _ rfl ⟨⟨below_step hG.1.1 hb', Kd.C_below hG.1.2 hb'⟩, layP_below hG.2 hb'⟩ hb'⟩
      · intro hp K hK
        refine g_no rfl ?_
        have e65 : b.eval (.tmp 65) = _ := i65.trans (hp 3 (by kernel_rfl))
        exact st_move (.inr rfl) (e65) (hK _ _ rfl hG (Below.refl _ _))
    intro vs W hG hp b hb
    have q4 : vs 4 = _ := hp 4 (by decide)
    clear hp
    simp only [fill, Act.put, List.append_eq, List.cons_append, List.nil_append, List.take_succ_cons, List.take_zero, List.setIfInBounds_toArray, List.set_cons_succ, List.set_cons_zero, Nat.reduceAdd, Nat.zero_add, q4] at hb
    subst hb
    refine wpList_nil ?_
    clear q4
    refine HK20.out _ _ ?_
    clear HK20
    apply wp_seq_k
    intro K21 hK21
    have HK21 := Lib.hid hK21
    clear hK21
    refine wp_listed (R := fun W W' => Below W.heap.size W W') 6 [.val (.int .i64 (off x far i)), .val (.bool (decide ((off x far i) < (-4096)))), .val (.bool (decide ((off x far i) < (-4096)))), .val ((bif ((decide ((off x far i) < (-4096))) == false) then (.int .i64 (off x far i)) else undef)), .val ((bif ((decide ((off x far i) < (-4096))) == false) then (.bool (decide (4094 < (off x far i)))) else undef)), .val (.bool ((decide ((off x far i) < (-4096))) || (decide (4094 < (off x far i)))))] (fun W => (Below w.heap.size w W ∧ Kd.C k34 W (some ad) x.length x) ∧ layP x far adb cb gf W) (by kernel_rfl) hG ?_ ?_
    · intro vs W hG b hb
      have e8 : b.eval (.tmp 8) = .int .i64 (off x far i) := eo hb (by kernel_rfl)
      have i66 := ei (d := 66) hb 0 (by kernel_rfl) rfl rfl (by simp)
      have i67 := ei (d := 67) hb 1 (by kernel_rfl) rfl rfl (by simp)
      have i68 := ei (d := 68) hb 2 (by kernel_rfl) rfl rfl (by simp)
      have i69 := ei (d := 69) hb 3 (by kernel_rfl) rfl rfl (by simp)
      have i70 := ei (d := 70) hb 4 (by kernel_rfl) rfl rfl (by simp)
      clear hb
      refine And.intro ?_ (And.intro ?_ (And.intro ?_ (And.intro ?_ (And.intro ?_ (And.intro ?_ (trivial))))))
      · intro hp K hK
        refine g_no rfl ?_
        exact st_move (.inl rfl) (e8) (hK _ _ rfl hG (Below.refl _ _))
      · intro hp K hK
        refine g_no rfl ?_
        have e66 : b.eval (.tmp 66) = _ := i66.trans (hp 0 (by kernel_rfl))
        exact st_bin rfl (e66) (eval_const _) b_lss (hK _ _ rfl hG (Below.refl _ _))
      · intro hp K hK
        refine g_no rfl ?_
        have e67 : b.eval (.tmp 67) = _ := i67.trans (hp 1 (by kernel_rfl))
        exact st_move (.inl rfl) (e67) (hK _ _ rfl hG (Below.refl _ _))
      · intro hp K hK
        refine g_is (j := 2) (want := false) (c := decide ((off x far i) < (-4096))) rfl (yielded_of (d := 68) rfl rfl (i68.trans (hp 2 (by kernel_rfl)))) (fun hb => ?_) (fun hb => hK _ _ (cond_no hb) hG (Below.refl _ _))
        exact st_move (.inl rfl) (e8) (hK _ _ (cond_yes hb).symm hG (Below.refl _ _))
      · intro hp K hK
        refine g_is (j := 2) (want := false) (c := decide ((off x far i) < (-4096))) rfl (yielded_of (d := 68) rfl rfl (i68.trans (hp 2 (by kernel_rfl)))) (fun hb => ?_) (fun hb => hK _ _ (cond_no hb) hG (Below.refl _ _))
        have e69 : b.eval (.tmp 69) = _ := i69.trans (hp 3 (by kernel_rfl))
        replace e69 := e69.trans (cond_yes hb)
        exact st_bin rfl (e69) (eval_const _) b_gtr (hK _ _ (cond_yes hb).symm hG (Below.refl _ _))
      · intro hp K hK
        refine g_no rfl ?_
        have e68 : b.eval (.tmp 68) = _ := i68.trans (hp 2 (by kernel_rfl))
        have e70 : b.eval (.tmp 70) = _ := i70.trans (hp 4 (by kernel_rfl))
        exact st_pick rfl (e68) (by first | (rw [e70]; exact pick_or) | (rw [show b.eval (Operand.tmp 70) = _ from eval_const _]; exact pick_or)) (hK _ _ rfl hG (Below.refl _ _))
    intro vs W hG hp b hb
    have q5 : vs 5 = _ := hp 5 (by decide)
    clear hp
    simp only [fill, Act.put, List.append_eq, List.cons_append, List.nil_append, List.take_succ_cons, List.take_zero, List.setIfInBounds_toArray, List.set_cons_succ, List.set_cons_zero, Nat.reduceAdd, Nat.zero_add, q5] at hb
    subst hb
    refine wpList_nil ?_
    clear q5
    refine HK21.out _ _ ?_
    clear HK21
    have hc : ((decide ((off x far i) < (-4096))) || (decide (4094 < (off x far i)))) = false := by
      have h1 : decide (off x far i < (-4096)) = false := decide_eq_false (by omega)
      have h2 : decide (4094 < off x far i) = false := decide_eq_false (by omega)
      first | (rw [h1, h2]; rfl) | simp_all
    rw [hc]
    clear hc hgd
    apply wp_cond_false rfl
    apply wp_skip
    simp only [Exit.inBlock, Exit.then, ↓reduceIte]
    refine HK17.out _ _ ?_
    clear HK17
    have HG := Lib.hid hG
    have Hil := Lib.hid hil
    clear hG hil hi
    go_wp2
    exact ⟨loop_frame (by kernel_rfl), ⟨i + 1, by show Value.int .i64 _ = _; simp, Hil.out, HG.out⟩, Msr.lt (by have := Hil.out; omega)⟩
  apply wp_skip
  simp only [Exit.inBlock, Exit.then, ↓reduceIte]
  refine HK17.out _ _ ?_
  clear HK17
  have HG := Lib.hid hG
  have Hil := Lib.hid hil
  clear hG hil hi
  go_wp2
  exact ⟨loop_frame (by kernel_rfl), ⟨i + 1, by show Value.int .i64 _ = _; simp, Hil.out, HG.out⟩, Msr.lt (by have := Hil.out; omega)⟩
end Go.Proofs.Ytihecimbhhlhaaa.Rl
