/- The law RelaxLeast. -/
import Derived.Test.YtihecimbhhlhaaaRlH
namespace Go.Proofs.Ytihecimbhhlhaaa.Rl
open Go.RowKit Dr PRs
open Go.Proofs.YtihecimbhhlhaaaW.PrintWords (Kd Kd.C Kd.R Kd.C_below Kd.C_get Kd.R_below Kd.R_reads Kd.R_reads' Kd.R_types Kd.R_step Kd.R_alloc Kd.R_drew Kd.R_lower add_field)
set_option linter.unusedVariables false
set_option linter.unusedSimpArgs false
set_option maxRecDepth 100000

theorem yielded_undef {ops : Array Oper} {oj : Oper} {b : Act} {j : Nat} {d : Tmp} (ho : ops[j]? = some oj) (hd : oj.dst = some d) (he : b.eval (.tmp d) = undef) : yielded ops b.tmps j = none := by
  unfold yielded
  rw [ho]
  simp only [Option.bind_some, hd]
  have e : b.tmps.getD d undef = undef := he
  by_cases h : d < b.tmps.size
  · have e' : b.tmps[d]? = some undef := by
      rw [← e]
      simp [h]
    rw [e']
    rfl
  · rw [Array.getElem?_eq_none (Nat.le_of_not_lt h)]
theorem g_never {P : Program} {Q : Exit → Act → World → Prop} {ops : Array Oper} {o : Oper} {b : Act} {W : World} {K : Act → World → Prop} {j : Nat} {want : Bool} (hg : o.guard = some (j, want)) (hy : yielded ops b.tmps j = none) (h0 : K (b.put o.dst undef) W) : if Region.wanted o (yielded ops b.tmps) = true then Oper.wp P o b W K Q else K (b.put o.dst undef) W := by
  have e : Region.wanted o (yielded ops b.tmps) = false := by
    simp only [Region.wanted, hg, hy]
    cases want <;> rfl
  rw [e]
  exact h0
theorem places_doc (A Ab : Option Addr) (c cf : Nat) (x : List S34) (far : Nat → Bool) (w : World) (hl : x.length ≤ 4000) (hk : ∀ i, i < x.length → far i = true → (x.getD i z34).f0 = 3) (hI : ∀ y ∈ x, In32 y.f1.f4) (hc : x.length ≤ c) (hC : Kd.C k34 w A x.length x) (hF : Kd.C Kd.bool w Ab x.length (farL far x.length)) :
    Calls Try.prog 11 #[.slice A x.length c, .slice Ab x.length x.length] w fun e w' => ∃ v, e = .returned v ∧ Kd.R (Kd.int .i64) 3 w' w.heap.size (fun _ => True) v (begs x far (x.length + 1)) ∧ Below w.heap.size w w' := by
  have h := pintleref13_Places.calls (2 * x.length + 7) A c x Ab x.length (farL far x.length) (begs x far (x.length + 1)) w hC hc (by rw [farL_len]; exact hF) (by rw [farL_len]; exact Nat.le_refl _) (places_ref x far hl hk hI)
  rw [farL_len] at h
  exact h
set_option maxHeartbeats 16000000 in
theorem least_law (A Ac : Option Addr) (c cc : Nat) (l : List S48) (lc : List Bool) (w : World) (hc : l.length ≤ c) (hl : ∀ y ∈ l, okx y.f1) (hC : Kd.C k48 w A l.length l) (hD : Kd.C Kd.bool w Ac lc.length lc) :
    Calls Try.prog 4 #[.slice A l.length c, .slice Ac lc.length cc] w fun e w' => e = .returned (.bool true) ∧ Below w.heap.size w w' := by
  obtain ⟨x, hx, hn, hok⟩ := items_is l hl
  have HC := Lib.hid hC
  have HD := Lib.hid hD
  have HN := Lib.hid hn
  have HO := Lib.hid hok
  have HDL := Lib.hid hD.2.1
  clear hC hD hn hok
  go_enter Try.func4, Try.ntmps4
  apply wp_seq_k
  intro K1 hK1
  have HK1 := Lib.hid hK1
  clear hK1
  refine wp_listed (R := fun W W' => Below W.heap.size W W') 1 [.val (.bool false)] (fun W => Below w.heap.size w W) (by kernel_rfl) (Below.refl _ _) ?_ ?_
  · intro vs W hG b hb
    clear hb
    refine And.intro ?_ (trivial)
    · intro hp K hK
      refine g_no rfl ?_
      exact st_move (.inr rfl) (eval_const _) (hK _ _ rfl hG (Below.refl _ _))
  intro vs W hG hp b hb
  have q0 : vs 0 = _ := hp 0 (by decide)
  clear hp
  simp only [fill, Act.put, List.append_eq, List.cons_append, List.nil_append, List.take_succ_cons, List.take_zero, List.setIfInBounds_toArray, List.set_cons_succ, List.set_cons_zero, Nat.reduceAdd, Nat.zero_add, q0] at hb
  subst hb
  refine wpList_nil ?_
  clear q0
  refine HK1.out _ _ ?_
  clear HK1
  apply wp_seq_k
  intro K2 hK2
  have HK2 := Lib.hid hK2
  clear hK2
  refine wp_listed (R := fun W W' => Below W.heap.size W W') 3 [.val (.slice A l.length c), rowS (x) w.heap.size, rowS (x) w.heap.size] (fun W => Below w.heap.size w W) (by kernel_rfl) hG ?_ ?_
  · intro vs W hG b hb
    have e0 : b.eval (.tmp 0) = .slice A l.length c := eo hb (by kernel_rfl)
    have i15 := ei (d := 15) hb 0 (by kernel_rfl) rfl rfl (by simp)
    have i16 := ei (d := 16) hb 1 (by kernel_rfl) rfl rfl (by simp)
    clear hb
    refine And.intro ?_ (And.intro ?_ (And.intro ?_ (trivial)))
    · intro hp K hK
      refine g_no rfl ?_
      exact st_move (.inl rfl) (e0) (hK _ _ rfl hG (Below.refl _ _))
    · intro hp K hK
      refine g_no rfl ?_
      have e15 : b.eval (.tmp 15) = _ := i15.trans (hp 0 (by kernel_rfl))
      refine st_call rfl (by first | (simp only [List.map_toArray, List.map_cons, List.map_nil, eval_const, e15]; done) | (simp only [List.map_toArray, List.map_cons, List.map_nil, eval_const, e15]; rfl)) (by kernel_rfl) ?_
      refine (pintlelaw13_Items.calls 4200 A c l x _ (Kd.C_below HC.out hG) hc hx).mono ?_
      rintro e w' ⟨v, rfl, hR, hb'⟩; obtain ⟨A2, c2, rfl, hc, hC⟩ := Kd.R_reads hR
      exact ⟨_, rfl, hK _ _ ⟨_, _, rfl, hc, hC⟩ (below_step hG hb') hb'⟩
    · intro hp K hK
      refine g_no rfl ?_
      have q1 : ∃ A c, (vs 1) = .slice A (x).length c ∧ (x).length ≤ c ∧ Kd.C k34 W A (x).length (x) := hp 1 (by kernel_rfl)
      obtain ⟨A, c, hv, hc, hC⟩ := q1
      have e16 := i16.trans hv
      exact st_move (.inr rfl) (e16) (hK _ _ ⟨_, _, rfl, hc, hC⟩ hG (Below.refl _ _))
  intro vs W hG hp b hb
  have q0 : vs 0 = _ := hp 0 (by decide)
  have q1 : ∃ A c, (vs 1) = .slice A (x).length c ∧ (x).length ≤ c ∧ Kd.C k34 W A (x).length (x) := hp 1 (by decide)
  have q2 : ∃ A c, (vs 2) = .slice A (x).length c ∧ (x).length ≤ c ∧ Kd.C k34 W A (x).length (x) := hp 2 (by decide)
  clear hp
  simp only [fill, Act.put, List.append_eq, List.cons_append, List.nil_append, List.take_succ_cons, List.take_zero, List.setIfInBounds_toArray, List.set_cons_succ, List.set_cons_zero, Nat.reduceAdd, Nat.zero_add, q0] at hb
  subst hb
  refine wpList_nil ?_
  clear q0
  clear q1
  obtain ⟨Ax, cx, hv, hcx, hCx⟩ := q2
  rw [hv]
  clear hv
  replace hG := And.intro hG hCx
  clear hCx
  refine HK2.out _ _ ?_
  clear HK2
  by_cases ho : okL x
  rotate_left
  · skip
    apply wp_seq_k
    intro K3 hK3
    have HK3 := Lib.hid hK3
    clear hK3
    refine wp_listed (R := fun W W' => Below W.heap.size W W') 9 [.val (.slice Ax x.length cx), errSpec (fun k => .tuple #[.slice none 0 0, .slice none 0 0, .int .i64 k]), errSpec (fun k => .tuple #[.slice none 0 0, .slice none 0 0, .int .i64 k]), .val (.slice none 0 0), .val (.slice none 0 0), errSpec (fun k => .int .i64 k), .val (.slice none 0 0), .val (.slice none 0 0), errSpec (fun k => .int .i64 k)] (fun W => Below w.heap.size w W ∧ Kd.C k34 W Ax x.length x) (by kernel_rfl) hG ?_ ?_
    · intro vs W hG b hb
      have e5 : b.eval (.tmp 5) = .slice Ax x.length cx := eo hb (by kernel_rfl)
      have i17 := ei (d := 17) hb 2 (by kernel_rfl) rfl rfl (by simp)
      have i18 := ei (d := 18) hb 0 (by kernel_rfl) rfl rfl (by simp)
      have i19 := ei (d := 19) hb 1 (by kernel_rfl) rfl rfl (by simp)
      have i20 := ei (d := 20) hb 3 (by kernel_rfl) rfl rfl (by simp)
      have i21 := ei (d := 21) hb 4 (by kernel_rfl) rfl rfl (by simp)
      have i22 := ei (d := 22) hb 5 (by kernel_rfl) rfl rfl (by simp)
      clear hb
      refine And.intro ?_ (And.intro ?_ (And.intro ?_ (And.intro ?_ (And.intro ?_ (And.intro ?_ (And.intro ?_ (And.intro ?_ (And.intro ?_ (trivial)))))))))
      · intro hp K hK
        refine g_no rfl ?_
        exact st_move (.inl rfl) (e5) (hK _ _ rfl hG (Below.refl _ _))
      · intro hp K hK
        refine g_no rfl ?_
        have e18 : b.eval (.tmp 18) = _ := i18.trans (hp 0 (by kernel_rfl))
        refine st_call rfl (by first | (simp only [List.map_toArray, List.map_cons, List.map_nil, eval_const, e18]; done) | (simp only [List.map_toArray, List.map_cons, List.map_nil, eval_const, e18]; rfl)) (by kernel_rfl) ?_
        refine (layout_bad Ax cx x _ HN.out (fun x hx => (HO.out x hx).1) (fun x hx => (HO.out x hx).2) hG.2 ho).mono ?_
        rintro e w' ⟨k, hk, rfl, hb'⟩
        exact ⟨_, rfl, hK _ _ ⟨_, hk, rfl⟩ ⟨below_step hG.1 hb', Kd.C_below hG.2 hb'⟩ hb'⟩
      · intro hp K hK
        refine g_no rfl ?_
        have q1 : ∃ k : Int, k ≠ 0 ∧ (vs 1) = .tuple #[.slice none 0 0, .slice none 0 0, .int .i64 k] := hp 1 (by kernel_rfl)
        obtain ⟨k, hk, hv⟩ := q1
        have e19 := i19.trans hv
        exact st_move (.inl rfl) (e19) (hK _ _ ⟨_, hk, rfl⟩ hG (Below.refl _ _))
      · intro hp K hK
        refine g_no rfl ?_
        have q2 : ∃ k : Int, k ≠ 0 ∧ (vs 2) = .tuple #[.slice none 0 0, .slice none 0 0, .int .i64 k] := hp 2 (by kernel_rfl)
        obtain ⟨k, hk, hv⟩ := q2
        have e17 := i17.trans hv
        exact st_extract rfl (e17) (by kernel_rfl) (hK _ _ rfl hG (Below.refl _ _))
      · intro hp K hK
        refine g_no rfl ?_
        have q2 : ∃ k : Int, k ≠ 0 ∧ (vs 2) = .tuple #[.slice none 0 0, .slice none 0 0, .int .i64 k] := hp 2 (by kernel_rfl)
        obtain ⟨k, hk, hv⟩ := q2
        have e17 := i17.trans hv
        exact st_extract rfl (e17) (by kernel_rfl) (hK _ _ rfl hG (Below.refl _ _))
      · intro hp K hK
        refine g_no rfl ?_
        have q2 : ∃ k : Int, k ≠ 0 ∧ (vs 2) = .tuple #[.slice none 0 0, .slice none 0 0, .int .i64 k] := hp 2 (by kernel_rfl)
        obtain ⟨k, hk, hv⟩ := q2
        have e17 := i17.trans hv
        exact st_extract rfl (e17) (by kernel_rfl) (hK _ _ ⟨_, hk, rfl⟩ hG (Below.refl _ _))
      · intro hp K hK
        refine g_no rfl ?_
        have e20 : b.eval (.tmp 20) = _ := i20.trans (hp 3 (by kernel_rfl))
        exact st_move (.inr rfl) (e20) (hK _ _ rfl hG (Below.refl _ _))
      · intro hp K hK
        refine g_no rfl ?_
        have e21 : b.eval (.tmp 21) = _ := i21.trans (hp 4 (by kernel_rfl))
        exact st_move (.inr rfl) (e21) (hK _ _ rfl hG (Below.refl _ _))
      · intro hp K hK
        refine g_no rfl ?_
        have q5 : ∃ k : Int, k ≠ 0 ∧ (vs 5) = .int .i64 k := hp 5 (by kernel_rfl)
        obtain ⟨k, hk, hv⟩ := q5
        have e22 := i22.trans hv
        exact st_move (.inr rfl) (e22) (hK _ _ ⟨_, hk, rfl⟩ hG (Below.refl _ _))
    intro vs W hG hp b hb
    have q1 : ∃ k : Int, k ≠ 0 ∧ (vs 1) = .tuple #[.slice none 0 0, .slice none 0 0, .int .i64 k] := hp 1 (by decide)
    have q2 : ∃ k : Int, k ≠ 0 ∧ (vs 2) = .tuple #[.slice none 0 0, .slice none 0 0, .int .i64 k] := hp 2 (by decide)
    have q5 : ∃ k : Int, k ≠ 0 ∧ (vs 5) = .int .i64 k := hp 5 (by decide)
    have q6 : vs 6 = _ := hp 6 (by decide)
    have q7 : vs 7 = _ := hp 7 (by decide)
    have q8 : ∃ k : Int, k ≠ 0 ∧ (vs 8) = .int .i64 k := hp 8 (by decide)
    clear hp
    simp only [fill, Act.put, List.append_eq, List.cons_append, List.nil_append, List.take_succ_cons, List.take_zero, List.setIfInBounds_toArray, List.set_cons_succ, List.set_cons_zero, Nat.reduceAdd, Nat.zero_add, q6, q7] at hb
    subst hb
    refine wpList_nil ?_
    clear q6 q7
    clear q1 q2 q5
    obtain ⟨k, hk, hv⟩ := q8
    rw [hv]
    clear hv
    refine HK3.out _ _ ?_
    clear HK3
    apply wp_seq_k
    intro K4 hK4
    have HK4 := Lib.hid hK4
    clear hK4
    apply wp_seq_k
    intro K5 hK5
    have HK5 := Lib.hid hK5
    clear hK5
    refine wp_listed (R := fun W W' => Below W.heap.size W W') 2 [.val (.int .i64 k), .val (.bool (k != 0))] (fun W => Below w.heap.size w W ∧ Kd.C k34 W Ax x.length x) (by kernel_rfl) hG ?_ ?_
    · intro vs W hG b hb
      have e8 : b.eval (.tmp 8) = .int .i64 k := eo hb (by kernel_rfl)
      have i23 := ei (d := 23) hb 0 (by kernel_rfl) rfl rfl (by simp)
      clear hb
      refine And.intro ?_ (And.intro ?_ (trivial))
      · intro hp K hK
        refine g_no rfl ?_
        exact st_move (.inl rfl) (e8) (hK _ _ rfl hG (Below.refl _ _))
      · intro hp K hK
        refine g_no rfl ?_
        have e23 : b.eval (.tmp 23) = _ := i23.trans (hp 0 (by kernel_rfl))
        exact st_bin rfl (e23) (eval_const _) b_neq (hK _ _ rfl hG (Below.refl _ _))
    intro vs W hG hp b hb
    have q1 : vs 1 = _ := hp 1 (by decide)
    clear hp
    simp only [fill, Act.put, List.append_eq, List.cons_append, List.nil_append, List.take_succ_cons, List.take_zero, List.setIfInBounds_toArray, List.set_cons_succ, List.set_cons_zero, Nat.reduceAdd, Nat.zero_add, q1] at hb
    subst hb
    refine wpList_nil ?_
    clear q1
    refine HK5.out _ _ ?_
    clear HK5
    have hd : (k != 0) = true := by simpa using hk
    rw [hd]
    clear hd
    apply wp_cond_true rfl
    apply wp_seq_k
    intro K6 hK6
    have HK6 := Lib.hid hK6
    clear hK6
    refine wp_listed (R := fun W W' => Below W.heap.size W W') 2 [.val (.bool true), .val (.bool true)] (fun W => Below w.heap.size w W ∧ Kd.C k34 W Ax x.length x) (by kernel_rfl) hG ?_ ?_
    · intro vs W hG b hb
      have i25 := ei (d := 25) hb 0 (by kernel_rfl) rfl rfl (by simp)
      clear hb
      refine And.intro ?_ (And.intro ?_ (trivial))
      · intro hp K hK
        refine g_no rfl ?_
        refine st_call rfl (by first | (simp only [List.map_toArray, List.map_cons, List.map_nil, eval_const]; done) | (simp only [List.map_toArray, List.map_cons, List.map_nil, eval_const]; rfl)) (by kernel_rfl) ?_
        refine (lives_is _).mono ?_
        rintro e w' ⟨rfl, hb'⟩
        exact ⟨_, rfl, hK _ _ rfl ⟨below_step hG.1 hb', Kd.C_below hG.2 hb'⟩ hb'⟩
      · intro hp K hK
        refine g_no rfl ?_
        have e25 : b.eval (.tmp 25) = _ := i25.trans (hp 0 (by kernel_rfl))
        exact st_move (.inr rfl) (e25) (hK _ _ rfl hG (Below.refl _ _))
    intro vs W hG hp b hb
    have q1 : vs 1 = _ := hp 1 (by decide)
    clear hp
    simp only [fill, Act.put, List.append_eq, List.cons_append, List.nil_append, List.take_succ_cons, List.take_zero, List.setIfInBounds_toArray, List.set_cons_succ, List.set_cons_zero, Nat.reduceAdd, Nat.zero_add, q1] at hb
    subst hb
    refine wpList_nil ?_
    clear q1
    refine HK6.out _ _ ?_
    clear HK6
    have HG := Lib.hid hG.1
    clear hG
    go_wp2
    go_ret
    exact ⟨rfl, HG.out⟩
  apply wp_seq_k
  intro K7 hK7
  have HK7 := Lib.hid hK7
  clear hK7
  refine wp_listed (R := fun W W' => Below W.heap.size W W') 2 [.val (.slice Ax x.length cx), layS (x)] (fun W => Below w.heap.size w W ∧ Kd.C k34 W Ax x.length x) (by kernel_rfl) hG ?_ ?_
  · intro vs W hG b hb
    have e5 : b.eval (.tmp 5) = .slice Ax x.length cx := eo hb (by kernel_rfl)
    have i18 := ei (d := 18) hb 0 (by kernel_rfl) rfl rfl (by simp)
    clear hb
    refine And.intro ?_ (And.intro ?_ (trivial))
    · intro hp K hK
      refine g_no rfl ?_
      exact st_move (.inl rfl) (e5) (hK _ _ rfl hG (Below.refl _ _))
    · intro hp K hK
      refine g_no rfl ?_
      have e18 : b.eval (.tmp 18) = _ := i18.trans (hp 0 (by kernel_rfl))
      refine st_call rfl (by first | (simp only [List.map_toArray, List.map_cons, List.map_nil, eval_const, e18]; done) | (simp only [List.map_toArray, List.map_cons, List.map_nil, eval_const, e18]; rfl)) (by kernel_rfl) ?_
      refine (layout_good Ax cx x _ HN.out (fun x hx => (HO.out x hx).1) (fun x hx => (HO.out x hx).2) hG.2 ho).mono ?_
      rintro e w' ⟨far, adb, cb, gf, rfl, h1, h2, hb'⟩; have hP : layP x far adb cb gf w' := ⟨h1, h2⟩
      exact ⟨_, rfl, hK _ _ ⟨_, _, _, _, rfl, hP⟩ ⟨below_step hG.1 hb', Kd.C_below hG.2 hb'⟩ hb'⟩
  intro vs W hG hp b hb
  have q0 : vs 0 = _ := hp 0 (by decide)
  have q1 : ∃ far adb cb gf, (vs 1) = layV (x) adb cb gf ∧ layP (x) far adb cb gf W := hp 1 (by decide)
  clear hp
  simp only [fill, Act.put, List.append_eq, List.cons_append, List.nil_append, List.take_succ_cons, List.take_zero, List.setIfInBounds_toArray, List.set_cons_succ, List.set_cons_zero, Nat.reduceAdd, Nat.zero_add, q0] at hb
  subst hb
  simp only [List.append_eq, List.cons_append, List.nil_append, List.drop_succ_cons, List.drop_zero]
  clear q0
  obtain ⟨far, adb, cb, gf, hv, hP⟩ := q1
  rw [hv]
  clear hv
  have HG := Lib.hid (And.intro hG hP)
  clear hG hP
  unfold layV
  go_wp2
  have hG := HG.out
  clear HG
  refine HK7.out _ _ ?_
  clear HK7
  apply wp_seq_k
  intro K8 hK8
  have HK8 := Lib.hid hK8
  clear hK8
  apply wp_seq_k
  intro K9 hK9
  have HK9 := Lib.hid hK9
  clear hK9
  refine wp_listed (R := fun W W' => Below W.heap.size W W') 2 [.val (.int .i64 0), .val (.bool (0 != 0))] (fun W => (Below w.heap.size w W ∧ Kd.C k34 W Ax x.length x) ∧ layP x far adb cb gf W) (by kernel_rfl) hG ?_ ?_
  · intro vs W hG b hb
    have e8 : b.eval (.tmp 8) = .int .i64 0 := eo hb (by kernel_rfl)
    have i23 := ei (d := 23) hb 0 (by kernel_rfl) rfl rfl (by simp)
    clear hb
    refine And.intro ?_ (And.intro ?_ (trivial))
    · intro hp K hK
      refine g_no rfl ?_
      exact st_move (.inl rfl) (e8) (hK _ _ rfl hG (Below.refl _ _))
    · intro hp K hK
      refine g_no rfl ?_
      have e23 : b.eval (.tmp 23) = _ := i23.trans (hp 0 (by kernel_rfl))
      exact st_bin rfl (e23) (eval_const _) b_neq (hK _ _ rfl hG (Below.refl _ _))
  intro vs W hG hp b hb
  have q1 : vs 1 = _ := hp 1 (by decide)
  clear hp
  simp only [fill, Act.put, List.append_eq, List.cons_append, List.nil_append, List.take_succ_cons, List.take_zero, List.setIfInBounds_toArray, List.set_cons_succ, List.set_cons_zero, Nat.reduceAdd, Nat.zero_add, q1] at hb
  subst hb
  refine wpList_nil ?_
  clear q1
  refine HK9.out _ _ ?_
  clear HK9
  apply wp_cond_false rfl
  apply wp_skip
  simp only [Exit.then]
  refine HK8.out _ _ ?_
  clear HK8
  apply wp_seq_k
  intro K10 hK10
  have HK10 := Lib.hid hK10
  clear hK10
  apply wp_seq_k
  intro K11 hK11
  have HK11 := Lib.hid hK11
  clear hK11
  refine wp_listed (R := fun W W' => Below W.heap.size W W') 5 [.val (.slice (some ⟨gf, 0, none⟩) x.length x.length), .val (.int .i64 ((x.length : Nat) : Int)), .val (.slice Ax x.length cx), .val (.int .i64 ((x.length : Nat) : Int)), .val (.bool (((x.length : Nat) : Int) != ((x.length : Nat) : Int)))] (fun W => (Below w.heap.size w W ∧ Kd.C k34 W Ax x.length x) ∧ layP x far adb cb gf W) (by kernel_rfl) hG ?_ ?_
  · intro vs W hG b hb
    have e5 : b.eval (.tmp 5) = .slice Ax x.length cx := eo hb (by kernel_rfl)
    have e7 : b.eval (.tmp 7) = .slice (some ⟨gf, 0, none⟩) x.length x.length := eo hb (by kernel_rfl)
    have i26 := ei (d := 26) hb 0 (by kernel_rfl) rfl rfl (by simp)
    have i27 := ei (d := 27) hb 1 (by kernel_rfl) rfl rfl (by simp)
    have i28 := ei (d := 28) hb 2 (by kernel_rfl) rfl rfl (by simp)
    have i29 := ei (d := 29) hb 3 (by kernel_rfl) rfl rfl (by simp)
    clear hb
    refine And.intro ?_ (And.intro ?_ (And.intro ?_ (And.intro ?_ (And.intro ?_ (trivial)))))
    · intro hp K hK
      refine g_no rfl ?_
      exact st_move (.inl rfl) (e7) (hK _ _ rfl hG (Below.refl _ _))
    · intro hp K hK
      refine g_no rfl ?_
      have e26 : b.eval (.tmp 26) = _ := i26.trans (hp 0 (by kernel_rfl))
      exact st_builtin rfl (by first | (simp only [List.map_toArray, List.map_cons, List.map_nil, eval_const, e26]; done) | (simp only [List.map_toArray, List.map_cons, List.map_nil, eval_const, e26]; rfl)) (fun cs => b_len 26 (by decide) cs _) (hK _ _ rfl hG (Below.refl _ _))
    · intro hp K hK
      refine g_no rfl ?_
      exact st_move (.inl rfl) (e5) (hK _ _ rfl hG (Below.refl _ _))
    · intro hp K hK
      refine g_no rfl ?_
      have e28 : b.eval (.tmp 28) = _ := i28.trans (hp 2 (by kernel_rfl))
      exact st_builtin rfl (by first | (simp only [List.map_toArray, List.map_cons, List.map_nil, eval_const, e28]; done) | (simp only [List.map_toArray, List.map_cons, List.map_nil, eval_const, e28]; rfl)) (fun cs => b_len 23 (by decide) cs _) (hK _ _ rfl hG (Below.refl _ _))
    · intro hp K hK
      refine g_no rfl ?_
      have e27 : b.eval (.tmp 27) = _ := i27.trans (hp 1 (by kernel_rfl))
      have e29 : b.eval (.tmp 29) = _ := i29.trans (hp 3 (by kernel_rfl))
      exact st_bin rfl (e27) (e29) b_neq (hK _ _ rfl hG (Below.refl _ _))
  intro vs W hG hp b hb
  have q4 : vs 4 = _ := hp 4 (by decide)
  clear hp
  simp only [fill, Act.put, List.append_eq, List.cons_append, List.nil_append, List.take_succ_cons, List.take_zero, List.setIfInBounds_toArray, List.set_cons_succ, List.set_cons_zero, Nat.reduceAdd, Nat.zero_add, q4] at hb
  subst hb
  refine wpList_nil ?_
  clear q4
  refine HK11.out _ _ ?_
  clear HK11
  have hc : (((x.length : Nat) : Int) != ((x.length : Nat) : Int)) = false := by simp
  rw [hc]
  clear hc
  apply wp_cond_false rfl
  apply wp_skip
  simp only [Exit.then]
  refine HK10.out _ _ ?_
  clear HK10
  have HFI := Lib.hid hG.2.2.2
  apply wp_seq_k
  intro K12 hK12
  have HK12 := Lib.hid hK12
  clear hK12
  have hgfl : True := trivial
  generalize hV : (fun W : World => True) = dummy
  clear hV dummy hgfl
  refine wp_listed (R := fun W W' => Below W.heap.size W W') 2 [.val (.slice Ax x.length cx), .val (.int .i64 ((x.length : Nat) : Int))] (fun W => (Below w.heap.size w W ∧ Kd.C k34 W Ax x.length x) ∧ layP x far adb cb gf W) (by kernel_rfl) hG ?_ ?_
  · intro vs W hG b hb
    have e5 : b.eval (.tmp 5) = .slice Ax x.length cx := eo hb (by kernel_rfl)
    have i31 := ei (d := 31) hb 0 (by kernel_rfl) rfl rfl (by simp)
    clear hb
    refine And.intro ?_ (And.intro ?_ (trivial))
    · intro hp K hK
      refine g_no rfl ?_
      exact st_move (.inl rfl) (e5) (hK _ _ rfl hG (Below.refl _ _))
    · intro hp K hK
      refine g_no rfl ?_
      have e31 : b.eval (.tmp 31) = _ := i31.trans (hp 0 (by kernel_rfl))
      exact st_builtin rfl (by first | (simp only [List.map_toArray, List.map_cons, List.map_nil, eval_const, e31]; done) | (simp only [List.map_toArray, List.map_cons, List.map_nil, eval_const, e31]; rfl)) (fun cs => b_len 23 (by decide) cs _) (hK _ _ rfl hG (Below.refl _ _))
  intro vs W hG hp b hb
  have q0 : vs 0 = _ := hp 0 (by decide)
  have q1 : vs 1 = _ := hp 1 (by decide)
  clear hp
  simp only [fill, Act.put, List.append_eq, List.cons_append, List.nil_append, List.take_succ_cons, List.take_zero, List.setIfInBounds_toArray, List.set_cons_succ, List.set_cons_zero, Nat.reduceAdd, Nat.zero_add, q0, q1] at hb
  subst hb
  simp only [List.append_eq, List.cons_append, List.nil_append, List.drop_succ_cons, List.drop_zero]
  clear q0 q1
  refine wpList_plain rfl fun K' hK' => ?_
  refine st_makeSlice rfl rfl rfl (mk26 _ x.length HN.out) ?_
  refine hK' _ _ ?_
  obtain ⟨U, rfl⟩ : ∃ U, U = W := ⟨_, rfl⟩
  have hAc := blk_new U (.cells (boolA (fun _ => false) x.length) 4)
  have hBu : Below U.heap.size U (U.alloc (.cells (boolA (fun _ => false) x.length) 4)) := (Below.refl _ _).alloc (Nat.le_refl _) _
  have HU := Lib.hid hG
  have hws : w.heap.size ≤ U.heap.size := hG.1.1.size
  clear hG
  obtain ⟨gc, hgc⟩ : ∃ gc, gc = U.heap.size := ⟨_, rfl⟩
  rw [← hgc] at hAc ⊢
  replace hgc : U.heap.size ≤ gc := Nat.le_of_eq hgc.symm
  generalize U.alloc (.cells (boolA (fun _ => false) x.length) 4) = V at hAc hBu ⊢
  have HA := Lib.hid hAc
  have HBu := Lib.hid hBu
  clear hAc hBu hK'
  go_wp2
  refine HK12.out _ _ ?_
  clear HK12
  skip
  apply wp_seq_k
  intro K13 hK13
  have HK13 := Lib.hid hK13
  clear hK13
  apply wp_seq_k
  intro K14 hK14
  have HK14 := Lib.hid hK14
  clear hK14
  go_wp2
  refine HK14.out _ _ ?_
  clear HK14
  apply wp_block
  refine wp_loopS [10, 11, 34, 35, 36, 37, 38, 39, 40, 41, 42, 43, 44, 45, 46, 47, 48, 49, 50, 51, 52, 53, 54, 55, 56, 57, 58, 59, 60] (fun sl W => ∃ i : Nat, sl 11 = .int .i64 (i : Int) ∧ (i ≤ x.length ∧ sl 10 = .int .i64 (cnt x i : Int)) ∧ Below U.heap.size U W ∧ W.heap[gc]? = some (.cells (boolA (fch x lc i) x.length) 4 (0, 0))) (fun sl W => Msr (x.length : Int) (sl 11)) ⟨0, rfl, ⟨Nat.zero_le _, rfl⟩, HBu.out, by rw [show fch x lc 0 = (fun _ => false) from by funext j; simp [fch]]; exact HA.out⟩ ?_
  clear HA HBu
  intro vs W b hb hI
  obtain ⟨i, hsl, ⟨hi, h10⟩, hG⟩ := hI
  simp only [setSlots, Act.put, List.setIfInBounds_toArray, List.set_cons_succ, List.set_cons_zero] at hb
  subst hb
  replace hsl : vs 11 = .int .i64 (i : Int) := hsl
  replace h10 : vs 10 = .int .i64 (cnt x i : Int) := h10
  rw [hsl, h10]
  clear hsl h10
  apply wp_seq_k
  intro K15 hK15
  have HK15 := Lib.hid hK15
  clear hK15
  apply wp_seq_k
  intro K16 hK16
  have HK16 := Lib.hid hK16
  clear hK16
  refine wp_listed (R := fun W W' => Below W.heap.size W W') 4 [.val (.int .i64 (i : Int)), .val (.slice Ax x.length cx), .val (.int .i64 ((x.length : Nat) : Int)), .val (.bool (decide ((i : Int) < ((x.length : Nat) : Int))))] (fun W => Below U.heap.size U W ∧ W.heap[gc]? = some (.cells (boolA (fch x lc i) x.length) 4 (0, 0))) (by kernel_rfl) hG ?_ ?_
  · intro vs W hG b hb
    have e5 : b.eval (.tmp 5) = .slice Ax x.length cx := eo hb (by kernel_rfl)
    have e11 : b.eval (.tmp 11) = .int .i64 (i : Int) := eo hb (by kernel_rfl)
    have i34 := ei (d := 34) hb 0 (by kernel_rfl) rfl rfl (by simp)
    have i35 := ei (d := 35) hb 1 (by kernel_rfl) rfl rfl (by simp)
    have i36 := ei (d := 36) hb 2 (by kernel_rfl) rfl rfl (by simp)
    clear hb
    refine And.intro ?_ (And.intro ?_ (And.intro ?_ (And.intro ?_ (trivial))))
    · intro hp K hK
      refine g_no rfl ?_
      exact st_move (.inl rfl) (e11) (hK _ _ rfl hG (Below.refl _ _))
    · intro hp K hK
      refine g_no rfl ?_
      exact st_move (.inl rfl) (e5) (hK _ _ rfl hG (Below.refl _ _))
    · intro hp K hK
      refine g_no rfl ?_
      have e35 : b.eval (.tmp 35) = _ := i35.trans (hp 1 (by kernel_rfl))
      exact st_builtin rfl (by first | (simp only [List.map_toArray, List.map_cons, List.map_nil, eval_const, e35]; done) | (simp only [List.map_toArray, List.map_cons, List.map_nil, eval_const, e35]; rfl)) (fun cs => b_len 23 (by decide) cs _) (hK _ _ rfl hG (Below.refl _ _))
    · intro hp K hK
      refine g_no rfl ?_
      have e34 : b.eval (.tmp 34) = _ := i34.trans (hp 0 (by kernel_rfl))
      have e36 : b.eval (.tmp 36) = _ := i36.trans (hp 2 (by kernel_rfl))
      exact st_bin rfl (e34) (e36) b_lss (hK _ _ rfl hG (Below.refl _ _))
  intro vs W hG hp b hb
  have q3 : vs 3 = _ := hp 3 (by decide)
  clear hp
  simp only [fill, Act.put, List.append_eq, List.cons_append, List.nil_append, List.take_succ_cons, List.take_zero, List.setIfInBounds_toArray, List.set_cons_succ, List.set_cons_zero, Nat.reduceAdd, Nat.zero_add, q3] at hb
  subst hb
  refine wpList_nil ?_
  clear q3
  refine HK16.out _ _ ?_
  clear HK16
  refine wp_cond_split rfl (fun hlt => ?_) (fun hlt => ?_)
  · skip
    have hil : i < x.length := by have := of_decide_eq_true hlt; omega
    clear hlt
    apply wp_skip
    simp only [Exit.then]
    refine HK15.out _ _ ?_
    clear HK15
    have HG1 := Lib.hid hG
    obtain ⟨ad, hAd, -⟩ := ld_fld HU.out.1.2 (q := 0) hil rfl
    subst hAd
    have hG := HG1.out
    clear HG1
    apply wp_seq_k
    intro K17 hK17
    have HK17 := Lib.hid hK17
    clear hK17
    apply wp_block
    apply wp_seq_k
    intro K18 hK18
    have HK18 := Lib.hid hK18
    clear hK18
    refine wp_listed (R := fun W W' => Below W.heap.size W W') 6 [.val (.slice (some ad) x.length cx), .val (.int .i64 (i : Int)), .val (.pointer (some (ad.add (i * 7)))), .val (.pointer (some ((ad.add (i * 7)).add 0))), .val (.int .i64 (x.getD i z34).f0), .val (.bool (((x.getD i z34).f0) == 3))] (fun W => Below U.heap.size U W ∧ W.heap[gc]? = some (.cells (boolA (fch x lc i) x.length) 4 (0, 0))) (by kernel_rfl) hG ?_ ?_
    · intro vs W hG b hb
      have e5 : b.eval (.tmp 5) = .slice (some ad) x.length cx := eo hb (by kernel_rfl)
      have e11 : b.eval (.tmp 11) = .int .i64 (i : Int) := eo hb (by kernel_rfl)
      have i40 := ei (d := 40) hb 0 (by kernel_rfl) rfl rfl (by simp)
      have i41 := ei (d := 41) hb 1 (by kernel_rfl) rfl rfl (by simp)
      have i42 := ei (d := 42) hb 2 (by kernel_rfl) rfl rfl (by simp)
      have i43 := ei (d := 43) hb 3 (by kernel_rfl) rfl rfl (by simp)
      have i44 := ei (d := 44) hb 4 (by kernel_rfl) rfl rfl (by simp)
      clear hb
      refine And.intro ?_ (And.intro ?_ (And.intro ?_ (And.intro ?_ (And.intro ?_ (And.intro ?_ (trivial))))))
      · intro hp K hK
        refine g_no rfl ?_
        exact st_move (.inl rfl) (e5) (hK _ _ rfl hG (Below.refl _ _))
      · intro hp K hK
        refine g_no rfl ?_
        exact st_move (.inl rfl) (e11) (hK _ _ rfl hG (Below.refl _ _))
      · intro hp K hK
        refine g_no rfl ?_
        have e40 : b.eval (.tmp 40) = _ := i40.trans (hp 0 (by kernel_rfl))
        have e41 : b.eval (.tmp 41) = _ := i41.trans (hp 1 (by kernel_rfl))
        exact st_index rfl (e40) (e41) (ix23 hil _) (hK _ _ rfl hG (Below.refl _ _))
      · intro hp K hK
        refine g_no rfl ?_
        have e42 : b.eval (.tmp 42) = _ := i42.trans (hp 2 (by kernel_rfl))
        exact st_field rfl (e42) (fa34k _ _) (hK _ _ rfl hG (Below.refl _ _))
      · intro hp K hK
        refine g_no rfl ?_
        have e43 : b.eval (.tmp 43) = _ := i43.trans (hp 3 (by kernel_rfl))
        exact st_load rfl (e43) (by obtain ⟨a', ha', hl'⟩ := ld_fld (Kd.C_below HU.out.1.2 hG.1) (q := 0) hil rfl; rw [Option.some.inj ha']; exact ld_cell 3 (by kernel_rfl) hl') (hK _ _ rfl hG (Below.refl _ _))
      · intro hp K hK
        refine g_no rfl ?_
        have e44 : b.eval (.tmp 44) = _ := i44.trans (hp 4 (by kernel_rfl))
        exact st_bin rfl (e44) (eval_const _) b_eql (hK _ _ rfl hG (Below.refl _ _))
    intro vs W hG hp b hb
    have q5 : vs 5 = _ := hp 5 (by decide)
    clear hp
    simp only [fill, Act.put, List.append_eq, List.cons_append, List.nil_append, List.take_succ_cons, List.take_zero, List.setIfInBounds_toArray, List.set_cons_succ, List.set_cons_zero, Nat.reduceAdd, Nat.zero_add, q5] at hb
    subst hb
    refine wpList_nil ?_
    clear q5
    refine HK18.out _ _ ?_
    clear HK18
    have hinc : IntKind.i64.wrap ((i : Int) + 1) = (i : Int) + 1 := IntWalk.i64_in _ (by have := HN.out; omega)
    refine wp_cond_split rfl (fun hk => ?_) (fun hk => ?_)
    · skip
      have hk3 : (x.getD i z34).f0 = 3 := eq_of_beq hk
      clear hk
      have hcl := cnt_le x i
      have hcn : cnt x (i + 1) = cnt x i + 1 := by simp only [cnt]; rw [if_pos hk3]
      have hcw : IntKind.i64.wrap ((cnt x i : Int) + 1) = (cnt x (i + 1) : Int) := by rw [hcn, IntWalk.i64_in _ (by have := HN.out; omega)]; rfl
      apply wp_seq_k
      intro K19 hK19
      have HK19 := Lib.hid hK19
      clear hK19
      by_cases hcc : cnt x i < lc.length
      · skip
        obtain ⟨adc, hAc2, -⟩ := ld_ch HD.out hcc
        subst hAc2
        refine wp_listed (R := fun W W' => Below W.heap.size W W') 13 [.val (.slice (some ⟨gc, 0, none⟩) x.length x.length), .val (.int .i64 (i : Int)), .val (.int .i64 (cnt x i : Int)), .val (.slice (some adc) lc.length cc), .val (.int .i64 ((lc.length : Nat) : Int)), .val (.bool true), .val (.bool true), .val ((bif ((true) == true) then (.slice (some adc) lc.length cc) else undef)), .val ((bif ((true) == true) then (.int .i64 (cnt x i : Int)) else undef)), .val ((bif ((true) == true) then (.pointer (some (adc.add (cnt x i)))) else undef)), .val ((bif ((true) == true) then (.bool (lc.getD (cnt x i) false)) else undef)), .val (.bool (true && (lc.getD (cnt x i) false))), .val (.pointer (some ⟨gc, i, none⟩))] (fun W => Below U.heap.size U W ∧ W.heap[gc]? = some (.cells (boolA (fch x lc i) x.length) 4 (0, 0))) (by kernel_rfl) hG ?_ ?_
        · intro vs W hG b hb
          have e1 : b.eval (.tmp 1) = .slice (some adc) lc.length cc := eo hb (by kernel_rfl)
          have e9 : b.eval (.tmp 9) = .slice (some ⟨gc, 0, none⟩) x.length x.length := eo hb (by kernel_rfl)
          have e10 : b.eval (.tmp 10) = .int .i64 (cnt x i : Int) := eo hb (by kernel_rfl)
          have e11 : b.eval (.tmp 11) = .int .i64 (i : Int) := eo hb (by kernel_rfl)
          have i46 := ei (d := 46) hb 0 (by kernel_rfl) rfl rfl (by simp)
          have i47 := ei (d := 47) hb 1 (by kernel_rfl) rfl rfl (by simp)
          have i48 := ei (d := 48) hb 2 (by kernel_rfl) rfl rfl (by simp)
          have i49 := ei (d := 49) hb 3 (by kernel_rfl) rfl rfl (by simp)
          have i50 := ei (d := 50) hb 4 (by kernel_rfl) rfl rfl (by simp)
          have i51 := ei (d := 51) hb 5 (by kernel_rfl) rfl rfl (by simp)
          have i52 := ei (d := 52) hb 6 (by kernel_rfl) rfl rfl (by simp)
          have i53 := ei (d := 53) hb 7 (by kernel_rfl) rfl rfl (by simp)
          have i54 := ei (d := 54) hb 8 (by kernel_rfl) rfl rfl (by simp)
          have i55 := ei (d := 55) hb 9 (by kernel_rfl) rfl rfl (by simp)
          have i56 := ei (d := 56) hb 10 (by kernel_rfl) rfl rfl (by simp)
          clear hb
          refine And.intro ?_ (And.intro ?_ (And.intro ?_ (And.intro ?_ (And.intro ?_ (And.intro ?_ (And.intro ?_ (And.intro ?_ (And.intro ?_ (And.intro ?_ (And.intro ?_ (And.intro ?_ (And.intro ?_ (trivial)))))))))))))
          · intro hp K hK
            refine g_no rfl ?_
            exact st_move (.inl rfl) (e9) (hK _ _ rfl hG (Below.refl _ _))
          · intro hp K hK
            refine g_no rfl ?_
            exact st_move (.inl rfl) (e11) (hK _ _ rfl hG (Below.refl _ _))
          · intro hp K hK
            refine g_no rfl ?_
            exact st_move (.inl rfl) (e10) (hK _ _ rfl hG (Below.refl _ _))
          · intro hp K hK
            refine g_no rfl ?_
            exact st_move (.inl rfl) (e1) (hK _ _ rfl hG (Below.refl _ _))
          · intro hp K hK
            refine g_no rfl ?_
            have e49 : b.eval (.tmp 49) = _ := i49.trans (hp 3 (by kernel_rfl))
            exact st_builtin rfl (by first | (simp only [List.map_toArray, List.map_cons, List.map_nil, eval_const, e49]; done) | (simp only [List.map_toArray, List.map_cons, List.map_nil, eval_const, e49]; rfl)) (fun cs => b_len 26 (by decide) cs _) (hK _ _ rfl hG (Below.refl _ _))
          · intro hp K hK
            refine g_no rfl ?_
            have e48 : b.eval (.tmp 48) = _ := i48.trans (hp 2 (by kernel_rfl))
            have e50 : b.eval (.tmp 50) = _ := i50.trans (hp 4 (by kernel_rfl))
            exact st_bin rfl (e48) (e50) (by have hd : decide ((cnt x i : Int) < ((lc.length : Nat) : Int)) = true := decide_eq_true (by omega); rw [← hd]; exact b_lss) (hK _ _ rfl hG (Below.refl _ _))
          · intro hp K hK
            refine g_no rfl ?_
            have e51 : b.eval (.tmp 51) = _ := i51.trans (hp 5 (by kernel_rfl))
            exact st_move (.inl rfl) (e51) (hK _ _ rfl hG (Below.refl _ _))
          · intro hp K hK
            refine g_is (j := 6) (want := true) (c := true) rfl (yielded_of (d := 52) rfl rfl (i52.trans (hp 6 (by kernel_rfl)))) (fun hb => ?_) (fun hb => hK _ _ (cond_no hb) hG (Below.refl _ _))
            exact st_move (.inl rfl) (e1) (hK _ _ (cond_yes hb).symm hG (Below.refl _ _))
          · intro hp K hK
            refine g_is (j := 6) (want := true) (c := true) rfl (yielded_of (d := 52) rfl rfl (i52.trans (hp 6 (by kernel_rfl)))) (fun hb => ?_) (fun hb => hK _ _ (cond_no hb) hG (Below.refl _ _))
            exact st_move (.inl rfl) (e10) (hK _ _ (cond_yes hb).symm hG (Below.refl _ _))
          · intro hp K hK
            refine g_is (j := 6) (want := true) (c := true) rfl (yielded_of (d := 52) rfl rfl (i52.trans (hp 6 (by kernel_rfl)))) (fun hb => ?_) (fun hb => hK _ _ (cond_no hb) hG (Below.refl _ _))
            have e53 : b.eval (.tmp 53) = _ := i53.trans (hp 7 (by kernel_rfl))
            replace e53 := e53.trans (cond_yes hb)
            have e54 : b.eval (.tmp 54) = _ := i54.trans (hp 8 (by kernel_rfl))
            replace e54 := e54.trans (cond_yes hb)
            exact st_index rfl (e53) (e54) (ix26 hcc _) (hK _ _ (cond_yes hb).symm hG (Below.refl _ _))
          · intro hp K hK
            refine g_is (j := 6) (want := true) (c := true) rfl (yielded_of (d := 52) rfl rfl (i52.trans (hp 6 (by kernel_rfl)))) (fun hb => ?_) (fun hb => hK _ _ (cond_no hb) hG (Below.refl _ _))
            have e55 : b.eval (.tmp 55) = _ := i55.trans (hp 9 (by kernel_rfl))
            replace e55 := e55.trans (cond_yes hb)
            exact st_load rfl (e55) (by obtain ⟨a', ha', hl'⟩ := ld_ch (Kd.C_below HD.out (below_step HU.out.1.1 hG.1)) hcc; rw [Option.some.inj ha']; exact ld_cell 4 (by kernel_rfl) hl') (hK _ _ (cond_yes hb).symm hG (Below.refl _ _))
          · intro hp K hK
            refine g_no rfl ?_
            have e52 : b.eval (.tmp 52) = _ := i52.trans (hp 6 (by kernel_rfl))
            have e56 : b.eval (.tmp 56) = _ := i56.trans (hp 10 (by kernel_rfl))
            exact st_pick rfl (e52) (by first | (rw [e56]; exact pick_and) | (rw [show b.eval (Operand.tmp 56) = _ from eval_const _]; exact pick_and)) (hK _ _ rfl hG (Below.refl _ _))
          · intro hp K hK
            refine g_no rfl ?_
            have e46 : b.eval (.tmp 46) = _ := i46.trans (hp 0 (by kernel_rfl))
            have e47 : b.eval (.tmp 47) = _ := i47.trans (hp 1 (by kernel_rfl))
            exact st_index rfl (e46) (e47) (by have h := ix26 (ad := ⟨gc, 0, none⟩) (c := x.length) hil W; rwa [Addr.add_mid, Nat.zero_add] at h) (hK _ _ rfl hG (Below.refl _ _))
        intro vs W hG hp b hb
        have q11 : vs 11 = _ := hp 11 (by decide)
        have q12 : vs 12 = _ := hp 12 (by decide)
        clear hp
        simp only [fill, Act.put, List.append_eq, List.cons_append, List.nil_append, List.take_succ_cons, List.take_zero, List.setIfInBounds_toArray, List.set_cons_succ, List.set_cons_zero, Nat.reduceAdd, Nat.zero_add, q11, q12] at hb
        subst hb
        simp only [List.append_eq, List.cons_append, List.nil_append, List.drop_succ_cons, List.drop_zero]
        clear q11 q12
        have hv : (true && (lc.getD (cnt x i) false)) = (lc.getD (cnt x i) false) := by simp
        try rw [hv]
        have z : W.cell? ⟨gc, i, none⟩ = some (.bool (fch x lc i i)) := (blk_cell hG.2 i).trans (boolA_get _ hil)
        have y := blk_frozen hG.2 i
        have HG := Lib.hid hG
        have Hil := Lib.hid hil
        have hVV := Lib.hid hv
        clear hG hil hi hv
        generalize hvv : (lc.getD (cnt x i) false) = vv at *
        go_wp2
        have hG3 : Below U.heap.size U (W.setCell ⟨gc, i, none⟩ (.bool vv)) ∧ (W.setCell ⟨gc, i, none⟩ (.bool vv)).heap[gc]? = some (.cells (boolA (fch x lc (i + 1)) x.length) 4 (0, 0)) := ⟨below_set HG.out.1 hgc, by rw [fch_put hk3, hvv]; exact blk_put HG.out.2 i _ (boolA_putv _ Hil.out _)⟩
        have HG3 := Lib.hid hG3
        clear hG3 HG z y
        generalize W.setCell ⟨gc, i, none⟩ (.bool vv) = V2 at *
        refine HK19.out _ _ ?_
        clear HK19
        go_wp2
        refine HK17.out _ _ ?_
        clear HK17
        go_wp2
        refine ⟨loop_frame (by kernel_rfl), ⟨i + 1, by show Value.int .i64 _ = _; simp, ⟨Hil.out, ?_⟩, HG3.out⟩, Msr.lt (by have := Hil.out; omega)⟩
        first | rfl | (show Value.int .i64 _ = _; rw [hcn]; simp)
      refine wp_listed (R := fun W W' => Below W.heap.size W W') 13 [.val (.slice (some ⟨gc, 0, none⟩) x.length x.length), .val (.int .i64 (i : Int)), .val (.int .i64 (cnt x i : Int)), .val (.slice Ac lc.length cc), .val (.int .i64 ((lc.length : Nat) : Int)), .val (.bool false), .val (.bool false), .val ((bif ((false) == true) then (undef) else undef)), .val ((bif ((false) == true) then (undef) else undef)), .val ((bif ((false) == true) then (undef) else undef)), .val ((bif ((false) == true) then (undef) else undef)), .val (.bool false), .val (.pointer (some ⟨gc, i, none⟩))] (fun W => Below U.heap.size U W ∧ W.heap[gc]? = some (.cells (boolA (fch x lc i) x.length) 4 (0, 0))) (by kernel_rfl) hG ?_ ?_
      · intro vs W hG b hb
        have e1 : b.eval (.tmp 1) = .slice Ac lc.length cc := eo hb (by kernel_rfl)
        have e9 : b.eval (.tmp 9) = .slice (some ⟨gc, 0, none⟩) x.length x.length := eo hb (by kernel_rfl)
        have e10 : b.eval (.tmp 10) = .int .i64 (cnt x i : Int) := eo hb (by kernel_rfl)
        have e11 : b.eval (.tmp 11) = .int .i64 (i : Int) := eo hb (by kernel_rfl)
        have i46 := ei (d := 46) hb 0 (by kernel_rfl) rfl rfl (by simp)
        have i47 := ei (d := 47) hb 1 (by kernel_rfl) rfl rfl (by simp)
        have i48 := ei (d := 48) hb 2 (by kernel_rfl) rfl rfl (by simp)
        have i49 := ei (d := 49) hb 3 (by kernel_rfl) rfl rfl (by simp)
        have i50 := ei (d := 50) hb 4 (by kernel_rfl) rfl rfl (by simp)
        have i51 := ei (d := 51) hb 5 (by kernel_rfl) rfl rfl (by simp)
        have i52 := ei (d := 52) hb 6 (by kernel_rfl) rfl rfl (by simp)
        have i53 := ei (d := 53) hb 7 (by kernel_rfl) rfl rfl (by simp)
        have i54 := ei (d := 54) hb 8 (by kernel_rfl) rfl rfl (by simp)
        have i55 := ei (d := 55) hb 9 (by kernel_rfl) rfl rfl (by simp)
        have i56 := ei (d := 56) hb 10 (by kernel_rfl) rfl rfl (by simp)
        clear hb
        refine And.intro ?_ (And.intro ?_ (And.intro ?_ (And.intro ?_ (And.intro ?_ (And.intro ?_ (And.intro ?_ (And.intro ?_ (And.intro ?_ (And.intro ?_ (And.intro ?_ (And.intro ?_ (And.intro ?_ (trivial)))))))))))))
        · intro hp K hK
          refine g_no rfl ?_
          exact st_move (.inl rfl) (e9) (hK _ _ rfl hG (Below.refl _ _))
        · intro hp K hK
          refine g_no rfl ?_
          exact st_move (.inl rfl) (e11) (hK _ _ rfl hG (Below.refl _ _))
        · intro hp K hK
          refine g_no rfl ?_
          exact st_move (.inl rfl) (e10) (hK _ _ rfl hG (Below.refl _ _))
        · intro hp K hK
          refine g_no rfl ?_
          exact st_move (.inl rfl) (e1) (hK _ _ rfl hG (Below.refl _ _))
        · intro hp K hK
          refine g_no rfl ?_
          have e49 : b.eval (.tmp 49) = _ := i49.trans (hp 3 (by kernel_rfl))
          exact st_builtin rfl (by first | (simp only [List.map_toArray, List.map_cons, List.map_nil, eval_const, e49]; done) | (simp only [List.map_toArray, List.map_cons, List.map_nil, eval_const, e49]; rfl)) (fun cs => b_len 26 (by decide) cs _) (hK _ _ rfl hG (Below.refl _ _))
        · intro hp K hK
          refine g_no rfl ?_
          have e48 : b.eval (.tmp 48) = _ := i48.trans (hp 2 (by kernel_rfl))
          have e50 : b.eval (.tmp 50) = _ := i50.trans (hp 4 (by kernel_rfl))
          exact st_bin rfl (e48) (e50) (by have hd : decide ((cnt x i : Int) < ((lc.length : Nat) : Int)) = false := decide_eq_false (by omega); rw [← hd]; exact b_lss) (hK _ _ rfl hG (Below.refl _ _))
        · intro hp K hK
          refine g_no rfl ?_
          have e51 : b.eval (.tmp 51) = _ := i51.trans (hp 5 (by kernel_rfl))
          exact st_move (.inl rfl) (e51) (hK _ _ rfl hG (Below.refl _ _))
        · intro hp K hK
          refine g_is (j := 6) (want := true) (c := false) rfl (yielded_of (d := 52) rfl rfl (i52.trans (hp 6 (by kernel_rfl)))) (fun hb => ?_) (fun hb => hK _ _ (cond_no hb) hG (Below.refl _ _))
          exact absurd hb (by decide)
        · intro hp K hK
          refine g_is (j := 6) (want := true) (c := false) rfl (yielded_of (d := 52) rfl rfl (i52.trans (hp 6 (by kernel_rfl)))) (fun hb => ?_) (fun hb => hK _ _ (cond_no hb) hG (Below.refl _ _))
          exact absurd hb (by decide)
        · intro hp K hK
          refine g_is (j := 6) (want := true) (c := false) rfl (yielded_of (d := 52) rfl rfl (i52.trans (hp 6 (by kernel_rfl)))) (fun hb => ?_) (fun hb => hK _ _ (cond_no hb) hG (Below.refl _ _))
          exact absurd hb (by decide)
        · intro hp K hK
          refine g_is (j := 6) (want := true) (c := false) rfl (yielded_of (d := 52) rfl rfl (i52.trans (hp 6 (by kernel_rfl)))) (fun hb => ?_) (fun hb => hK _ _ (cond_no hb) hG (Below.refl _ _))
          exact absurd hb (by decide)
        · intro hp K hK
          refine g_no rfl ?_
          have e52 : b.eval (.tmp 52) = _ := i52.trans (hp 6 (by kernel_rfl))
          have e56 : b.eval (.tmp 56) = _ := i56.trans (hp 10 (by kernel_rfl))
          exact st_pick rfl (e52) (by first | (rw [eval_const]; exact rfl) | (rw [show b.eval (Operand.const (Value.bool false)) = _ from eval_const _]; exact rfl)) (hK _ _ rfl hG (Below.refl _ _))
        · intro hp K hK
          refine g_no rfl ?_
          have e46 : b.eval (.tmp 46) = _ := i46.trans (hp 0 (by kernel_rfl))
          have e47 : b.eval (.tmp 47) = _ := i47.trans (hp 1 (by kernel_rfl))
          exact st_index rfl (e46) (e47) (by have h := ix26 (ad := ⟨gc, 0, none⟩) (c := x.length) hil W; rwa [Addr.add_mid, Nat.zero_add] at h) (hK _ _ rfl hG (Below.refl _ _))
      intro vs W hG hp b hb
      have q11 : vs 11 = _ := hp 11 (by decide)
      have q12 : vs 12 = _ := hp 12 (by decide)
      clear hp
      simp only [fill, Act.put, List.append_eq, List.cons_append, List.nil_append, List.take_succ_cons, List.take_zero, List.setIfInBounds_toArray, List.set_cons_succ, List.set_cons_zero, Nat.reduceAdd, Nat.zero_add, q11, q12] at hb
      subst hb
      simp only [List.append_eq, List.cons_append, List.nil_append, List.drop_succ_cons, List.drop_zero]
      clear q11 q12
      have hv : (false) = (lc.getD (cnt x i) false) := by simp [List.getD, Nat.le_of_not_lt hcc]
      skip
      have z : W.cell? ⟨gc, i, none⟩ = some (.bool (fch x lc i i)) := (blk_cell hG.2 i).trans (boolA_get _ hil)
      have y := blk_frozen hG.2 i
      have HG := Lib.hid hG
      have Hil := Lib.hid hil
      have hVV := Lib.hid hv
      clear hG hil hi hv
      skip
      go_wp2
      have hG3 : Below U.heap.size U (W.setCell ⟨gc, i, none⟩ (.bool false)) ∧ (W.setCell ⟨gc, i, none⟩ (.bool false)).heap[gc]? = some (.cells (boolA (fch x lc (i + 1)) x.length) 4 (0, 0)) := ⟨below_set HG.out.1 hgc, by rw [fch_put hk3, ← hVV.out]; exact blk_put HG.out.2 i _ (boolA_putv _ Hil.out _)⟩
      have HG3 := Lib.hid hG3
      clear hG3 HG z y
      generalize W.setCell ⟨gc, i, none⟩ (.bool false) = V2 at *
      refine HK19.out _ _ ?_
      clear HK19
      go_wp2
      refine HK17.out _ _ ?_
      clear HK17
      go_wp2
      refine ⟨loop_frame (by kernel_rfl), ⟨i + 1, by show Value.int .i64 _ = _; simp, ⟨Hil.out, ?_⟩, HG3.out⟩, Msr.lt (by have := Hil.out; omega)⟩
      first | rfl | (show Value.int .i64 _ = _; rw [hcn]; simp)
    have hk3 : (x.getD i z34).f0 ≠ 3 := by simpa using hk
    have hcn : cnt x (i + 1) = cnt x i := by simp only [cnt]; rw [if_neg hk3]; rfl
    clear hk
    apply wp_skip
    simp only [Exit.inBlock, Exit.then, ↓reduceIte]
    refine HK17.out _ _ ?_
    clear HK17
    have HG := Lib.hid hG
    have Hil := Lib.hid hil
    clear hG hil hi
    go_wp2
    exact ⟨loop_frame (by kernel_rfl), ⟨i + 1, by show Value.int .i64 _ = _; simp, ⟨Hil.out, by rw [hcn]; rfl⟩, by rw [fch_skip hk3]; exact HG.out⟩, Msr.lt (by have := Hil.out; omega)⟩
  have hle : i = x.length := by have := of_decide_eq_false hlt; omega
  clear hlt
  apply wp_exit
  simp only [Exit.inBlock, Exit.then, ↓reduceIte]
  subst hle
  clear hi
  have hfk : ∀ i, i < x.length → fch x lc x.length i = true → (x.getD i z34).f0 = 3 := fun i _ h => fch_kind h
  generalize fch x lc x.length = fc at hG hfk
  refine HK13.out _ _ ?_
  clear HK13
  apply wp_seq_k
  intro K20 hK20
  have HK20 := Lib.hid hK20
  clear hK20
  refine wp_listed (R := fun W W' => Below W.heap.size W W') 4 [.val (.slice Ax x.length cx), .val (.slice (some ⟨gc, 0, none⟩) x.length x.length), intsSpec (begs x fc (x.length + 1)) U.heap.size, intsSpec (begs x fc (x.length + 1)) U.heap.size] (fun W => Below U.heap.size U W ∧ W.heap[gc]? = some (.cells (boolA fc x.length) 4 (0, 0))) (by kernel_rfl) hG ?_ ?_
  · intro vs W hG b hb
    have e5 : b.eval (.tmp 5) = .slice Ax x.length cx := eo hb (by kernel_rfl)
    have e9 : b.eval (.tmp 9) = .slice (some ⟨gc, 0, none⟩) x.length x.length := eo hb (by kernel_rfl)
    have i61 := ei (d := 61) hb 0 (by kernel_rfl) rfl rfl (by simp)
    have i62 := ei (d := 62) hb 1 (by kernel_rfl) rfl rfl (by simp)
    have i63 := ei (d := 63) hb 2 (by kernel_rfl) rfl rfl (by simp)
    clear hb
    refine And.intro ?_ (And.intro ?_ (And.intro ?_ (And.intro ?_ (trivial))))
    · intro hp K hK
      refine g_no rfl ?_
      exact st_move (.inl rfl) (e5) (hK _ _ rfl hG (Below.refl _ _))
    · intro hp K hK
      refine g_no rfl ?_
      exact st_move (.inl rfl) (e9) (hK _ _ rfl hG (Below.refl _ _))
    · intro hp K hK
      refine g_no rfl ?_
      have e61 : b.eval (.tmp 61) = _ := i61.trans (hp 0 (by kernel_rfl))
      have e62 : b.eval (.tmp 62) = _ := i62.trans (hp 1 (by kernel_rfl))
      refine st_call rfl (by first | (simp only [List.map_toArray, List.map_cons, List.map_nil, eval_const, e61, e62]; done) | (simp only [List.map_toArray, List.map_cons, List.map_nil, eval_const, e61, e62]; rfl)) (by kernel_rfl) ?_
      refine (places_doc Ax (some ⟨gc, 0, none⟩) cx x.length x fc _ HN.out hfk (fun x hx => (HO.out x hx).2) hcx (Kd.C_below HU.out.1.2 hG.1) (C_of_blk hG.2 HN.out)).mono ?_
      rintro e w' ⟨v, rfl, hR, hb'⟩; replace hR := Kd.R_lower hR hG.1.size
      exact ⟨_, rfl, hK _ _ hR ⟨below_step hG.1 hb', blk_below hG.2 hb'⟩ hb'⟩
    · intro hp K hK
      refine g_no rfl ?_
      have q2 : Kd.R (Kd.int .i64) 3 W U.heap.size (fun _ => True) (vs 2) (begs x fc (x.length + 1)) := hp 2 (by kernel_rfl)
      skip
      have e63 := i63
      exact st_move (.inr rfl) (e63) (hK _ _ q2 hG (Below.refl _ _))
  intro vs W hG hp b hb
  have q0 : vs 0 = _ := hp 0 (by decide)
  have q1 : vs 1 = _ := hp 1 (by decide)
  have q2 : Kd.R (Kd.int .i64) 3 W U.heap.size (fun _ => True) (vs 2) (begs x fc (x.length + 1)) := hp 2 (by decide)
  have q3 : Kd.R (Kd.int .i64) 3 W U.heap.size (fun _ => True) (vs 3) (begs x fc (x.length + 1)) := hp 3 (by decide)
  clear hp
  simp only [fill, Act.put, List.append_eq, List.cons_append, List.nil_append, List.take_succ_cons, List.take_zero, List.setIfInBounds_toArray, List.set_cons_succ, List.set_cons_zero, Nat.reduceAdd, Nat.zero_add, q0, q1] at hb
  subst hb
  refine wpList_nil ?_
  clear q0 q1
  clear q2
  obtain ⟨Ap, cp, hvb, hcb, hCb⟩ := Kd.R_reads q3
  rw [begs_len] at hvb hcb hCb
  rw [hvb]
  clear hvb q3
  have hG3 : (Below U.heap.size U W ∧ W.heap[gc]? = some (.cells (boolA fc x.length) 4 (0, 0))) ∧ Kd.C (Kd.int .i64) W Ap (x.length + 1) (begs x fc (x.length + 1)) := ⟨hG, hCb⟩
  clear hG hCb
  refine HK20.out _ _ ?_
  clear HK20
  apply wp_seq_k
  intro K21 hK21
  have HK21 := Lib.hid hK21
  clear hK21
  apply wp_seq_k
  intro K22 hK22
  have HK22 := Lib.hid hK22
  clear hK22
  have HG := Lib.hid hG3
  clear hG3
  go_wp2
  refine HK22.out _ _ ?_
  clear HK22
  apply wp_block
  refine wp_loopS [13, 64, 65, 66, 67, 68, 69, 70, 71, 72, 73, 74, 75, 76, 77, 78, 79, 80, 81, 82, 83, 84, 85, 86, 87, 88, 89, 90, 91, 92, 93, 94, 95, 96, 97] (fun sl W => ∃ i : Nat, sl 13 = .int .i64 (i : Int) ∧ (i ≤ x.length ∧ ∀ j, j < i → (x.getD j z34).f0 = 3 → fc j = false → -4096 ≤ off x fc j ∧ off x fc j ≤ 4094) ∧ (Below U.heap.size U W ∧ W.heap[gc]? = some (.cells (boolA fc x.length) 4 (0, 0))) ∧ Kd.C (Kd.int .i64) W Ap (x.length + 1) (begs x fc (x.length + 1))) (fun sl W => Msr (x.length : Int) (sl 13)) ⟨0, rfl, ⟨Nat.zero_le _, fun j h => absurd h (by omega)⟩, HG.out⟩ ?_
  clear HG
  intro vs W b hb hI
  obtain ⟨i, hsl, hi, hG⟩ := hI
  simp only [setSlots, Act.put, List.setIfInBounds_toArray, List.set_cons_succ, List.set_cons_zero] at hb
  subst hb
  replace hsl : vs 13 = .int .i64 (i : Int) := hsl
  rw [hsl]
  clear hsl
  apply wp_seq_k
  intro K23 hK23
  have HK23 := Lib.hid hK23
  clear hK23
  apply wp_seq_k
  intro K24 hK24
  have HK24 := Lib.hid hK24
  clear hK24
  refine wp_listed (R := fun W W' => Below W.heap.size W W') 4 [.val (.int .i64 (i : Int)), .val (.slice Ax x.length cx), .val (.int .i64 ((x.length : Nat) : Int)), .val (.bool (decide ((i : Int) < ((x.length : Nat) : Int))))] (fun W => (Below U.heap.size U W ∧ W.heap[gc]? = some (.cells (boolA fc x.length) 4 (0, 0))) ∧ Kd.C (Kd.int .i64) W Ap (x.length + 1) (begs x fc (x.length + 1))) (by kernel_rfl) hG ?_ ?_
  · intro vs W hG b hb
    have e5 : b.eval (.tmp 5) = .slice Ax x.length cx := eo hb (by kernel_rfl)
    have e13 : b.eval (.tmp 13) = .int .i64 (i : Int) := eo hb (by kernel_rfl)
    have i64 := ei (d := 64) hb 0 (by kernel_rfl) rfl rfl (by simp)
    have i65 := ei (d := 65) hb 1 (by kernel_rfl) rfl rfl (by simp)
    have i66 := ei (d := 66) hb 2 (by kernel_rfl) rfl rfl (by simp)
    clear hb
    refine And.intro ?_ (And.intro ?_ (And.intro ?_ (And.intro ?_ (trivial))))
    · intro hp K hK
      refine g_no rfl ?_
      exact st_move (.inl rfl) (e13) (hK _ _ rfl hG (Below.refl _ _))
    · intro hp K hK
      refine g_no rfl ?_
      exact st_move (.inl rfl) (e5) (hK _ _ rfl hG (Below.refl _ _))
    · intro hp K hK
      refine g_no rfl ?_
      have e65 : b.eval (.tmp 65) = _ := i65.trans (hp 1 (by kernel_rfl))
      exact st_builtin rfl (by first | (simp only [List.map_toArray, List.map_cons, List.map_nil, eval_const, e65]; done) | (simp only [List.map_toArray, List.map_cons, List.map_nil, eval_const, e65]; rfl)) (fun cs => b_len 23 (by decide) cs _) (hK _ _ rfl hG (Below.refl _ _))
    · intro hp K hK
      refine g_no rfl ?_
      have e64 : b.eval (.tmp 64) = _ := i64.trans (hp 0 (by kernel_rfl))
      have e66 : b.eval (.tmp 66) = _ := i66.trans (hp 2 (by kernel_rfl))
      exact st_bin rfl (e64) (e66) b_lss (hK _ _ rfl hG (Below.refl _ _))
  intro vs W hG hp b hb
  have q3 : vs 3 = _ := hp 3 (by decide)
  clear hp
  simp only [fill, Act.put, List.append_eq, List.cons_append, List.nil_append, List.take_succ_cons, List.take_zero, List.setIfInBounds_toArray, List.set_cons_succ, List.set_cons_zero, Nat.reduceAdd, Nat.zero_add, q3] at hb
  subst hb
  refine wpList_nil ?_
  clear q3
  refine HK24.out _ _ ?_
  clear HK24
  refine wp_cond_split rfl (fun hlt => ?_) (fun hlt => ?_)
  · skip
    have hil : i < x.length := by have := of_decide_eq_true hlt; omega
    clear hlt
    apply wp_skip
    simp only [Exit.then]
    refine HK23.out _ _ ?_
    clear HK23
    have HG1 := Lib.hid hG
    obtain ⟨ad, hAd, -⟩ := ld_fld HU.out.1.2 (q := 0) hil rfl
    subst hAd
    have hG := HG1.out
    clear HG1
    apply wp_seq_k
    intro K25 hK25
    have HK25 := Lib.hid hK25
    clear hK25
    apply wp_block
    apply wp_seq_k
    intro K26 hK26
    have HK26 := Lib.hid hK26
    clear hK26
    have hinc : IntKind.i64.wrap ((i : Int) + 1) = (i : Int) + 1 := IntWalk.i64_in _ (by have := HN.out; omega)
    by_cases hk3 : (x.getD i z34).f0 = 3
    rotate_left
    · skip
      refine wp_listed (R := fun W W' => Below W.heap.size W W') 27 [.val (.slice (some ad) x.length cx), .val (.int .i64 (i : Int)), .val (.pointer (some (ad.add (i * 7)))), .val (.pointer (some ((ad.add (i * 7)).add 0))), .val (.int .i64 (x.getD i z34).f0), .val (.bool false), .val (.bool false), .val ((bif ((false) == true) then (undef) else undef)), .val ((bif ((false) == true) then (undef) else undef)), .val ((bif ((false) == true) then (undef) else undef)), .val ((bif ((false) == true) then (undef) else undef)), .val ((bif ((false) == true) then (undef) else undef)), .val (.bool false), .val (.bool false), .val ((bif ((false) == true) then (undef) else undef)), .val ((bif ((false) == true) then (undef) else undef)), .val ((bif ((false) == true) then (undef) else undef)), .val ((bif ((false) == true) then (undef) else undef)), .val ((bif ((false) == true) then (undef) else undef)), .val ((bif ((false) == true) then (undef) else undef)), .val ((bif ((true) == false) then (undef) else undef)), .val ((bif ((true) == false) then (undef) else undef)), .val ((bif ((true) == false) then (undef) else undef)), .val ((bif ((true) == false) then (undef) else undef)), .val ((bif ((true) == false) then (undef) else undef)), .val ((bif ((false) == true) then (undef) else undef)), .val (.bool false)] (fun W => (Below U.heap.size U W ∧ W.heap[gc]? = some (.cells (boolA fc x.length) 4 (0, 0))) ∧ Kd.C (Kd.int .i64) W Ap (x.length + 1) (begs x fc (x.length + 1))) (by kernel_rfl) hG ?_ ?_
      · intro vs W hG b hb
        have e5 : b.eval (.tmp 5) = .slice (some ad) x.length cx := eo hb (by kernel_rfl)
        have e9 : b.eval (.tmp 9) = .slice (some ⟨gc, 0, none⟩) x.length x.length := eo hb (by kernel_rfl)
        have e12 : b.eval (.tmp 12) = .slice Ap (x.length + 1) cp := eo hb (by kernel_rfl)
        have e13 : b.eval (.tmp 13) = .int .i64 (i : Int) := eo hb (by kernel_rfl)
        have i70 := ei (d := 70) hb 0 (by kernel_rfl) rfl rfl (by simp)
        have i71 := ei (d := 71) hb 1 (by kernel_rfl) rfl rfl (by simp)
        have i72 := ei (d := 72) hb 2 (by kernel_rfl) rfl rfl (by simp)
        have i73 := ei (d := 73) hb 3 (by kernel_rfl) rfl rfl (by simp)
        have i74 := ei (d := 74) hb 4 (by kernel_rfl) rfl rfl (by simp)
        have i75 := ei (d := 75) hb 5 (by kernel_rfl) rfl rfl (by simp)
        have i76 := ei (d := 76) hb 6 (by kernel_rfl) rfl rfl (by simp)
        have i77 := ei (d := 77) hb 7 (by kernel_rfl) rfl rfl (by simp)
        have i78 := ei (d := 78) hb 8 (by kernel_rfl) rfl rfl (by simp)
        have i79 := ei (d := 79) hb 9 (by kernel_rfl) rfl rfl (by simp)
        have i80 := ei (d := 80) hb 10 (by kernel_rfl) rfl rfl (by simp)
        have i81 := ei (d := 81) hb 11 (by kernel_rfl) rfl rfl (by simp)
        have i82 := ei (d := 82) hb 12 (by kernel_rfl) rfl rfl (by simp)
        have i83 := ei (d := 83) hb 13 (by kernel_rfl) rfl rfl (by simp)
        have i84 := ei (d := 84) hb 14 (by kernel_rfl) rfl rfl (by simp)
        have i85 := ei (d := 85) hb 15 (by kernel_rfl) rfl rfl (by simp)
        have i86 := ei (d := 86) hb 16 (by kernel_rfl) rfl rfl (by simp)
        have i87 := ei (d := 87) hb 17 (by kernel_rfl) rfl rfl (by simp)
        have i88 := ei (d := 88) hb 18 (by kernel_rfl) rfl rfl (by simp)
        have i89 := ei (d := 89) hb 19 (by kernel_rfl) rfl rfl (by simp)
        have i90 := ei (d := 90) hb 20 (by kernel_rfl) rfl rfl (by simp)
        have i91 := ei (d := 91) hb 21 (by kernel_rfl) rfl rfl (by simp)
        have i92 := ei (d := 92) hb 22 (by kernel_rfl) rfl rfl (by simp)
        have i93 := ei (d := 93) hb 23 (by kernel_rfl) rfl rfl (by simp)
        have i94 := ei (d := 94) hb 24 (by kernel_rfl) rfl rfl (by simp)
        have i95 := ei (d := 95) hb 25 (by kernel_rfl) rfl rfl (by simp)
        clear hb
        refine And.intro ?_ (And.intro ?_ (And.intro ?_ (And.intro ?_ (And.intro ?_ (And.intro ?_ (And.intro ?_ (And.intro ?_ (And.intro ?_ (And.intro ?_ (And.intro ?_ (And.intro ?_ (And.intro ?_ (And.intro ?_ (And.intro ?_ (And.intro ?_ (And.intro ?_ (And.intro ?_ (And.intro ?_ (And.intro ?_ (And.intro ?_ (And.intro ?_ (And.intro ?_ (And.intro ?_ (And.intro ?_ (And.intro ?_ (And.intro ?_ (trivial)))))))))))))))))))))))))))
        · intro hp K hK
          refine g_no rfl ?_
          exact st_move (.inl rfl) (e5) (hK _ _ rfl hG (Below.refl _ _))
        · intro hp K hK
          refine g_no rfl ?_
          exact st_move (.inl rfl) (e13) (hK _ _ rfl hG (Below.refl _ _))
        · intro hp K hK
          refine g_no rfl ?_
          have e70 : b.eval (.tmp 70) = _ := i70.trans (hp 0 (by kernel_rfl))
          have e71 : b.eval (.tmp 71) = _ := i71.trans (hp 1 (by kernel_rfl))
          exact st_index rfl (e70) (e71) (ix23 hil _) (hK _ _ rfl hG (Below.refl _ _))
        · intro hp K hK
          refine g_no rfl ?_
          have e72 : b.eval (.tmp 72) = _ := i72.trans (hp 2 (by kernel_rfl))
          exact st_field rfl (e72) (fa34k _ _) (hK _ _ rfl hG (Below.refl _ _))
        · intro hp K hK
          refine g_no rfl ?_
          have e73 : b.eval (.tmp 73) = _ := i73.trans (hp 3 (by kernel_rfl))
          exact st_load rfl (e73) (by obtain ⟨a', ha', hl'⟩ := ld_fld (Kd.C_below HU.out.1.2 hG.1.1) (q := 0) hil rfl; rw [Option.some.inj ha']; exact ld_cell 3 (by kernel_rfl) hl') (hK _ _ rfl hG (Below.refl _ _))
        · intro hp K hK
          refine g_no rfl ?_
          have e74 : b.eval (.tmp 74) = _ := i74.trans (hp 4 (by kernel_rfl))
          exact st_bin rfl (e74) (eval_const _) (by have hd : ((x.getD i z34).f0 == 3) = false := (by simpa using hk3); rw [← hd]; exact b_eql) (hK _ _ rfl hG (Below.refl _ _))
        · intro hp K hK
          refine g_no rfl ?_
          have e75 : b.eval (.tmp 75) = _ := i75.trans (hp 5 (by kernel_rfl))
          exact st_move (.inl rfl) (e75) (hK _ _ rfl hG (Below.refl _ _))
        · intro hp K hK
          refine g_is (j := 6) (want := true) (c := false) rfl (yielded_of (d := 76) rfl rfl (i76.trans (hp 6 (by kernel_rfl)))) (fun hb => ?_) (fun hb => hK _ _ (cond_no hb) hG (Below.refl _ _))
          exact absurd hb (by decide)
        · intro hp K hK
          refine g_is (j := 6) (want := true) (c := false) rfl (yielded_of (d := 76) rfl rfl (i76.trans (hp 6 (by kernel_rfl)))) (fun hb => ?_) (fun hb => hK _ _ (cond_no hb) hG (Below.refl _ _))
          exact absurd hb (by decide)
        · intro hp K hK
          refine g_is (j := 6) (want := true) (c := false) rfl (yielded_of (d := 76) rfl rfl (i76.trans (hp 6 (by kernel_rfl)))) (fun hb => ?_) (fun hb => hK _ _ (cond_no hb) hG (Below.refl _ _))
          exact absurd hb (by decide)
        · intro hp K hK
          refine g_is (j := 6) (want := true) (c := false) rfl (yielded_of (d := 76) rfl rfl (i76.trans (hp 6 (by kernel_rfl)))) (fun hb => ?_) (fun hb => hK _ _ (cond_no hb) hG (Below.refl _ _))
          exact absurd hb (by decide)
        · intro hp K hK
          refine g_is (j := 6) (want := true) (c := false) rfl (yielded_of (d := 76) rfl rfl (i76.trans (hp 6 (by kernel_rfl)))) (fun hb => ?_) (fun hb => hK _ _ (cond_no hb) hG (Below.refl _ _))
          exact absurd hb (by decide)
        · intro hp K hK
          refine g_no rfl ?_
          have e76 : b.eval (.tmp 76) = _ := i76.trans (hp 6 (by kernel_rfl))
          have e81 : b.eval (.tmp 81) = _ := i81.trans (hp 11 (by kernel_rfl))
          exact st_pick rfl (e76) (by first | (rw [eval_const]; exact rfl) | (rw [show b.eval (Operand.const (Value.bool false)) = _ from eval_const _]; exact rfl)) (hK _ _ rfl hG (Below.refl _ _))
        · intro hp K hK
          refine g_no rfl ?_
          have e82 : b.eval (.tmp 82) = _ := i82.trans (hp 12 (by kernel_rfl))
          exact st_move (.inl rfl) (e82) (hK _ _ rfl hG (Below.refl _ _))
        · intro hp K hK
          refine g_is (j := 13) (want := true) (c := false) rfl (yielded_of (d := 83) rfl rfl (i83.trans (hp 13 (by kernel_rfl)))) (fun hb => ?_) (fun hb => hK _ _ (cond_no hb) hG (Below.refl _ _))
          exact absurd hb (by decide)
        · intro hp K hK
          refine g_is (j := 13) (want := true) (c := false) rfl (yielded_of (d := 83) rfl rfl (i83.trans (hp 13 (by kernel_rfl)))) (fun hb => ?_) (fun hb => hK _ _ (cond_no hb) hG (Below.refl _ _))
          exact absurd hb (by decide)
        · intro hp K hK
          refine g_is (j := 13) (want := true) (c := false) rfl (yielded_of (d := 83) rfl rfl (i83.trans (hp 13 (by kernel_rfl)))) (fun hb => ?_) (fun hb => hK _ _ (cond_no hb) hG (Below.refl _ _))
          exact absurd hb (by decide)
        · intro hp K hK
          refine g_is (j := 13) (want := true) (c := false) rfl (yielded_of (d := 83) rfl rfl (i83.trans (hp 13 (by kernel_rfl)))) (fun hb => ?_) (fun hb => hK _ _ (cond_no hb) hG (Below.refl _ _))
          exact absurd hb (by decide)
        · intro hp K hK
          refine g_is (j := 13) (want := true) (c := false) rfl (yielded_of (d := 83) rfl rfl (i83.trans (hp 13 (by kernel_rfl)))) (fun hb => ?_) (fun hb => hK _ _ (cond_no hb) hG (Below.refl _ _))
          exact absurd hb (by decide)
        · intro hp K hK
          refine g_is (j := 13) (want := true) (c := false) rfl (yielded_of (d := 83) rfl rfl (i83.trans (hp 13 (by kernel_rfl)))) (fun hb => ?_) (fun hb => hK _ _ (cond_no hb) hG (Below.refl _ _))
          exact absurd hb (by decide)
        · intro hp K hK
          exact g_never (j := 19) (want := false) rfl (yielded_undef (d := 89) rfl rfl (i89.trans (hp 19 (by kernel_rfl)))) (hK _ _ rfl hG (Below.refl _ _))
        · intro hp K hK
          exact g_never (j := 19) (want := false) rfl (yielded_undef (d := 89) rfl rfl (i89.trans (hp 19 (by kernel_rfl)))) (hK _ _ rfl hG (Below.refl _ _))
        · intro hp K hK
          exact g_never (j := 19) (want := false) rfl (yielded_undef (d := 89) rfl rfl (i89.trans (hp 19 (by kernel_rfl)))) (hK _ _ rfl hG (Below.refl _ _))
        · intro hp K hK
          exact g_never (j := 19) (want := false) rfl (yielded_undef (d := 89) rfl rfl (i89.trans (hp 19 (by kernel_rfl)))) (hK _ _ rfl hG (Below.refl _ _))
        · intro hp K hK
          exact g_never (j := 19) (want := false) rfl (yielded_undef (d := 89) rfl rfl (i89.trans (hp 19 (by kernel_rfl)))) (hK _ _ rfl hG (Below.refl _ _))
        · intro hp K hK
          refine g_is (j := 13) (want := true) (c := false) rfl (yielded_of (d := 83) rfl rfl (i83.trans (hp 13 (by kernel_rfl)))) (fun hb => ?_) (fun hb => hK _ _ (cond_no hb) hG (Below.refl _ _))
          exact absurd hb (by decide)
        · intro hp K hK
          refine g_no rfl ?_
          have e83 : b.eval (.tmp 83) = _ := i83.trans (hp 13 (by kernel_rfl))
          have e95 : b.eval (.tmp 95) = _ := i95.trans (hp 25 (by kernel_rfl))
          exact st_pick rfl (e83) (by first | (rw [eval_const]; exact rfl) | (rw [show b.eval (Operand.const (Value.bool false)) = _ from eval_const _]; exact rfl)) (hK _ _ rfl hG (Below.refl _ _))
      intro vs W hG hp b hb
      have q26 : vs 26 = _ := hp 26 (by decide)
      clear hp
      simp only [fill, Act.put, List.append_eq, List.cons_append, List.nil_append, List.take_succ_cons, List.take_zero, List.setIfInBounds_toArray, List.set_cons_succ, List.set_cons_zero, Nat.reduceAdd, Nat.zero_add, q26] at hb
      subst hb
      refine wpList_nil ?_
      clear q26
      refine HK26.out _ _ ?_
      clear HK26
      apply wp_cond_false rfl
      apply wp_skip
      simp only [Exit.inBlock, Exit.then, ↓reduceIte]
      refine HK25.out _ _ ?_
      clear HK25
      have HG := Lib.hid hG
      have Hil := Lib.hid hil
      have HI2 := Lib.hid hi.2
      clear hG hil hi
      go_wp2
      refine ⟨loop_frame (by kernel_rfl), ⟨i + 1, by show Value.int .i64 _ = _; simp, ⟨Hil.out, fun j hj h3 hf => ?_⟩, HG.out⟩, Msr.lt (by have := Hil.out; omega)⟩
      by_cases e : j = i
      · subst e
        exact absurd h3 hk3
      · exact HI2.out j (by omega) h3 hf
    cases hfi : fc i with
    | true =>
      refine wp_listed (R := fun W W' => Below W.heap.size W W') 27 [.val (.slice (some ad) x.length cx), .val (.int .i64 (i : Int)), .val (.pointer (some (ad.add (i * 7)))), .val (.pointer (some ((ad.add (i * 7)).add 0))), .val (.int .i64 3), .val (.bool true), .val (.bool true), .val ((bif ((true) == true) then (.slice (some ⟨gc, 0, none⟩) x.length x.length) else undef)), .val ((bif ((true) == true) then (.int .i64 (i : Int)) else undef)), .val ((bif ((true) == true) then (.pointer (some ⟨gc, i, none⟩)) else undef)), .val ((bif ((true) == true) then (.bool true) else undef)), .val ((bif ((true) == true) then (.bool false) else undef)), .val (.bool false), .val (.bool false), .val ((bif ((false) == true) then (undef) else undef)), .val ((bif ((false) == true) then (undef) else undef)), .val ((bif ((false) == true) then (undef) else undef)), .val ((bif ((false) == true) then (undef) else undef)), .val ((bif ((false) == true) then (undef) else undef)), .val ((bif ((false) == true) then (undef) else undef)), .val ((bif ((true) == false) then (undef) else undef)), .val ((bif ((true) == false) then (undef) else undef)), .val ((bif ((true) == false) then (undef) else undef)), .val ((bif ((true) == false) then (undef) else undef)), .val ((bif ((true) == false) then (undef) else undef)), .val ((bif ((false) == true) then (undef) else undef)), .val (.bool false)] (fun W => (Below U.heap.size U W ∧ W.heap[gc]? = some (.cells (boolA fc x.length) 4 (0, 0))) ∧ Kd.C (Kd.int .i64) W Ap (x.length + 1) (begs x fc (x.length + 1))) (by kernel_rfl) hG ?_ ?_
      · intro vs W hG b hb
        have e5 : b.eval (.tmp 5) = .slice (some ad) x.length cx := eo hb (by kernel_rfl)
        have e9 : b.eval (.tmp 9) = .slice (some ⟨gc, 0, none⟩) x.length x.length := eo hb (by kernel_rfl)
        have e12 : b.eval (.tmp 12) = .slice Ap (x.length + 1) cp := eo hb (by kernel_rfl)
        have e13 : b.eval (.tmp 13) = .int .i64 (i : Int) := eo hb (by kernel_rfl)
        have i70 := ei (d := 70) hb 0 (by kernel_rfl) rfl rfl (by simp)
        have i71 := ei (d := 71) hb 1 (by kernel_rfl) rfl rfl (by simp)
        have i72 := ei (d := 72) hb 2 (by kernel_rfl) rfl rfl (by simp)
        have i73 := ei (d := 73) hb 3 (by kernel_rfl) rfl rfl (by simp)
        have i74 := ei (d := 74) hb 4 (by kernel_rfl) rfl rfl (by simp)
        have i75 := ei (d := 75) hb 5 (by kernel_rfl) rfl rfl (by simp)
        have i76 := ei (d := 76) hb 6 (by kernel_rfl) rfl rfl (by simp)
        have i77 := ei (d := 77) hb 7 (by kernel_rfl) rfl rfl (by simp)
        have i78 := ei (d := 78) hb 8 (by kernel_rfl) rfl rfl (by simp)
        have i79 := ei (d := 79) hb 9 (by kernel_rfl) rfl rfl (by simp)
        have i80 := ei (d := 80) hb 10 (by kernel_rfl) rfl rfl (by simp)
        have i81 := ei (d := 81) hb 11 (by kernel_rfl) rfl rfl (by simp)
        have i82 := ei (d := 82) hb 12 (by kernel_rfl) rfl rfl (by simp)
        have i83 := ei (d := 83) hb 13 (by kernel_rfl) rfl rfl (by simp)
        have i84 := ei (d := 84) hb 14 (by kernel_rfl) rfl rfl (by simp)
        have i85 := ei (d := 85) hb 15 (by kernel_rfl) rfl rfl (by simp)
        have i86 := ei (d := 86) hb 16 (by kernel_rfl) rfl rfl (by simp)
        have i87 := ei (d := 87) hb 17 (by kernel_rfl) rfl rfl (by simp)
        have i88 := ei (d := 88) hb 18 (by kernel_rfl) rfl rfl (by simp)
        have i89 := ei (d := 89) hb 19 (by kernel_rfl) rfl rfl (by simp)
        have i90 := ei (d := 90) hb 20 (by kernel_rfl) rfl rfl (by simp)
        have i91 := ei (d := 91) hb 21 (by kernel_rfl) rfl rfl (by simp)
        have i92 := ei (d := 92) hb 22 (by kernel_rfl) rfl rfl (by simp)
        have i93 := ei (d := 93) hb 23 (by kernel_rfl) rfl rfl (by simp)
        have i94 := ei (d := 94) hb 24 (by kernel_rfl) rfl rfl (by simp)
        have i95 := ei (d := 95) hb 25 (by kernel_rfl) rfl rfl (by simp)
        clear hb
        refine And.intro ?_ (And.intro ?_ (And.intro ?_ (And.intro ?_ (And.intro ?_ (And.intro ?_ (And.intro ?_ (And.intro ?_ (And.intro ?_ (And.intro ?_ (And.intro ?_ (And.intro ?_ (And.intro ?_ (And.intro ?_ (And.intro ?_ (And.intro ?_ (And.intro ?_ (And.intro ?_ (And.intro ?_ (And.intro ?_ (And.intro ?_ (And.intro ?_ (And.intro ?_ (And.intro ?_ (And.intro ?_ (And.intro ?_ (And.intro ?_ (trivial)))))))))))))))))))))))))))
        · intro hp K hK
          refine g_no rfl ?_
          exact st_move (.inl rfl) (e5) (hK _ _ rfl hG (Below.refl _ _))
        · intro hp K hK
          refine g_no rfl ?_
          exact st_move (.inl rfl) (e13) (hK _ _ rfl hG (Below.refl _ _))
        · intro hp K hK
          refine g_no rfl ?_
          have e70 : b.eval (.tmp 70) = _ := i70.trans (hp 0 (by kernel_rfl))
          have e71 : b.eval (.tmp 71) = _ := i71.trans (hp 1 (by kernel_rfl))
          exact st_index rfl (e70) (e71) (ix23 hil _) (hK _ _ rfl hG (Below.refl _ _))
        · intro hp K hK
          refine g_no rfl ?_
          have e72 : b.eval (.tmp 72) = _ := i72.trans (hp 2 (by kernel_rfl))
          exact st_field rfl (e72) (fa34k _ _) (hK _ _ rfl hG (Below.refl _ _))
        · intro hp K hK
          refine g_no rfl ?_
          have e73 : b.eval (.tmp 73) = _ := i73.trans (hp 3 (by kernel_rfl))
          exact st_load rfl (e73) (by obtain ⟨a', ha', hl'⟩ := ld_fld (Kd.C_below HU.out.1.2 hG.1.1) (q := 0) hil rfl; rw [Option.some.inj ha']; replace hl' : W.cell? _ = some (Value.int .i64 (x.getD i z34).f0) := hl'; rw [hk3] at hl'; exact ld_cell 3 (by kernel_rfl) hl') (hK _ _ rfl hG (Below.refl _ _))
        · intro hp K hK
          refine g_no rfl ?_
          have e74 : b.eval (.tmp 74) = _ := i74.trans (hp 4 (by kernel_rfl))
          exact st_bin rfl (e74) (eval_const _) b_eql (hK _ _ rfl hG (Below.refl _ _))
        · intro hp K hK
          refine g_no rfl ?_
          have e75 : b.eval (.tmp 75) = _ := i75.trans (hp 5 (by kernel_rfl))
          exact st_move (.inl rfl) (e75) (hK _ _ rfl hG (Below.refl _ _))
        · intro hp K hK
          refine g_is (j := 6) (want := true) (c := true) rfl (yielded_of (d := 76) rfl rfl (i76.trans (hp 6 (by kernel_rfl)))) (fun hb => ?_) (fun hb => hK _ _ (cond_no hb) hG (Below.refl _ _))
          exact st_move (.inl rfl) (e9) (hK _ _ (cond_yes hb).symm hG (Below.refl _ _))
        · intro hp K hK
          refine g_is (j := 6) (want := true) (c := true) rfl (yielded_of (d := 76) rfl rfl (i76.trans (hp 6 (by kernel_rfl)))) (fun hb => ?_) (fun hb => hK _ _ (cond_no hb) hG (Below.refl _ _))
          exact st_move (.inl rfl) (e13) (hK _ _ (cond_yes hb).symm hG (Below.refl _ _))
        · intro hp K hK
          refine g_is (j := 6) (want := true) (c := true) rfl (yielded_of (d := 76) rfl rfl (i76.trans (hp 6 (by kernel_rfl)))) (fun hb => ?_) (fun hb => hK _ _ (cond_no hb) hG (Below.refl _ _))
          have e77 : b.eval (.tmp 77) = _ := i77.trans (hp 7 (by kernel_rfl))
          replace e77 := e77.trans (cond_yes hb)
          have e78 : b.eval (.tmp 78) = _ := i78.trans (hp 8 (by kernel_rfl))
          replace e78 := e78.trans (cond_yes hb)
          exact st_index rfl (e77) (e78) (by have h := ix26 (ad := ⟨gc, 0, none⟩) (c := x.length) hil W; rwa [Addr.add_mid, Nat.zero_add] at h) (hK _ _ (cond_yes hb).symm hG (Below.refl _ _))
        · intro hp K hK
          refine g_is (j := 6) (want := true) (c := true) rfl (yielded_of (d := 76) rfl rfl (i76.trans (hp 6 (by kernel_rfl)))) (fun hb => ?_) (fun hb => hK _ _ (cond_no hb) hG (Below.refl _ _))
          have e79 : b.eval (.tmp 79) = _ := i79.trans (hp 9 (by kernel_rfl))
          replace e79 := e79.trans (cond_yes hb)
          exact st_load rfl (e79) (ld_cell 4 (by kernel_rfl) ((blk_cell hG.1.2 i).trans ((boolA_get _ hil).trans (by first | rfl | (rw [hfi]))))) (hK _ _ (cond_yes hb).symm hG (Below.refl _ _))
        · intro hp K hK
          refine g_is (j := 6) (want := true) (c := true) rfl (yielded_of (d := 76) rfl rfl (i76.trans (hp 6 (by kernel_rfl)))) (fun hb => ?_) (fun hb => hK _ _ (cond_no hb) hG (Below.refl _ _))
          have e80 : b.eval (.tmp 80) = _ := i80.trans (hp 10 (by kernel_rfl))
          replace e80 := e80.trans (cond_yes hb)
          exact st_un rfl (e80) u_not (hK _ _ (cond_yes hb).symm hG (Below.refl _ _))
        · intro hp K hK
          refine g_no rfl ?_
          have e76 : b.eval (.tmp 76) = _ := i76.trans (hp 6 (by kernel_rfl))
          have e81 : b.eval (.tmp 81) = _ := i81.trans (hp 11 (by kernel_rfl))
          exact st_pick rfl (e76) (by first | (rw [e81]; exact rfl) | (rw [show b.eval (Operand.tmp 81) = _ from eval_const _]; exact rfl)) (hK _ _ rfl hG (Below.refl _ _))
        · intro hp K hK
          refine g_no rfl ?_
          have e82 : b.eval (.tmp 82) = _ := i82.trans (hp 12 (by kernel_rfl))
          exact st_move (.inl rfl) (e82) (hK _ _ rfl hG (Below.refl _ _))
        · intro hp K hK
          refine g_is (j := 13) (want := true) (c := false) rfl (yielded_of (d := 83) rfl rfl (i83.trans (hp 13 (by kernel_rfl)))) (fun hb => ?_) (fun hb => hK _ _ (cond_no hb) hG (Below.refl _ _))
          exact absurd hb (by decide)
        · intro hp K hK
          refine g_is (j := 13) (want := true) (c := false) rfl (yielded_of (d := 83) rfl rfl (i83.trans (hp 13 (by kernel_rfl)))) (fun hb => ?_) (fun hb => hK _ _ (cond_no hb) hG (Below.refl _ _))
          exact absurd hb (by decide)
        · intro hp K hK
          refine g_is (j := 13) (want := true) (c := false) rfl (yielded_of (d := 83) rfl rfl (i83.trans (hp 13 (by kernel_rfl)))) (fun hb => ?_) (fun hb => hK _ _ (cond_no hb) hG (Below.refl _ _))
          exact absurd hb (by decide)
        · intro hp K hK
          refine g_is (j := 13) (want := true) (c := false) rfl (yielded_of (d := 83) rfl rfl (i83.trans (hp 13 (by kernel_rfl)))) (fun hb => ?_) (fun hb => hK _ _ (cond_no hb) hG (Below.refl _ _))
          exact absurd hb (by decide)
        · intro hp K hK
          refine g_is (j := 13) (want := true) (c := false) rfl (yielded_of (d := 83) rfl rfl (i83.trans (hp 13 (by kernel_rfl)))) (fun hb => ?_) (fun hb => hK _ _ (cond_no hb) hG (Below.refl _ _))
          exact absurd hb (by decide)
        · intro hp K hK
          refine g_is (j := 13) (want := true) (c := false) rfl (yielded_of (d := 83) rfl rfl (i83.trans (hp 13 (by kernel_rfl)))) (fun hb => ?_) (fun hb => hK _ _ (cond_no hb) hG (Below.refl _ _))
          exact absurd hb (by decide)
        · intro hp K hK
          exact g_never (j := 19) (want := false) rfl (yielded_undef (d := 89) rfl rfl (i89.trans (hp 19 (by kernel_rfl)))) (hK _ _ rfl hG (Below.refl _ _))
        · intro hp K hK
          exact g_never (j := 19) (want := false) rfl (yielded_undef (d := 89) rfl rfl (i89.trans (hp 19 (by kernel_rfl)))) (hK _ _ rfl hG (Below.refl _ _))
        · intro hp K hK
          exact g_never (j := 19) (want := false) rfl (yielded_undef (d := 89) rfl rfl (i89.trans (hp 19 (by kernel_rfl)))) (hK _ _ rfl hG (Below.refl _ _))
        · intro hp K hK
          exact g_never (j := 19) (want := false) rfl (yielded_undef (d := 89) rfl rfl (i89.trans (hp 19 (by kernel_rfl)))) (hK _ _ rfl hG (Below.refl _ _))
        · intro hp K hK
          exact g_never (j := 19) (want := false) rfl (yielded_undef (d := 89) rfl rfl (i89.trans (hp 19 (by kernel_rfl)))) (hK _ _ rfl hG (Below.refl _ _))
        · intro hp K hK
          refine g_is (j := 13) (want := true) (c := false) rfl (yielded_of (d := 83) rfl rfl (i83.trans (hp 13 (by kernel_rfl)))) (fun hb => ?_) (fun hb => hK _ _ (cond_no hb) hG (Below.refl _ _))
          exact absurd hb (by decide)
        · intro hp K hK
          refine g_no rfl ?_
          have e83 : b.eval (.tmp 83) = _ := i83.trans (hp 13 (by kernel_rfl))
          have e95 : b.eval (.tmp 95) = _ := i95.trans (hp 25 (by kernel_rfl))
          exact st_pick rfl (e83) (by first | (rw [eval_const]; exact rfl) | (rw [show b.eval (Operand.const (Value.bool false)) = _ from eval_const _]; exact rfl)) (hK _ _ rfl hG (Below.refl _ _))
      intro vs W hG hp b hb
      have q26 : vs 26 = _ := hp 26 (by decide)
      clear hp
      simp only [fill, Act.put, List.append_eq, List.cons_append, List.nil_append, List.take_succ_cons, List.take_zero, List.setIfInBounds_toArray, List.set_cons_succ, List.set_cons_zero, Nat.reduceAdd, Nat.zero_add, q26] at hb
      subst hb
      refine wpList_nil ?_
      clear q26
      refine HK26.out _ _ ?_
      clear HK26
      apply wp_cond_false rfl
      apply wp_skip
      simp only [Exit.inBlock, Exit.then, ↓reduceIte]
      refine HK25.out _ _ ?_
      clear HK25
      have HG := Lib.hid hG
      have Hil := Lib.hid hil
      have HI2 := Lib.hid hi.2
      clear hG hil hi
      go_wp2
      refine ⟨loop_frame (by kernel_rfl), ⟨i + 1, by show Value.int .i64 _ = _; simp, ⟨Hil.out, fun j hj h3 hf => ?_⟩, HG.out⟩, Msr.lt (by have := Hil.out; omega)⟩
      by_cases e : j = i
      · subst e
        rw [hfi] at hf; cases hf
      · exact HI2.out j (by omega) h3 hf
    | false =>
      have hnm : nameB (x.getD i z34) = true := by unfold nameB; rw [hk3]; rfl
      have hlb := ho.2.2 i hil hnm
      clear hnm
      refine wp_listed (R := fun W W' => Below W.heap.size W W') 27 [.val (.slice (some ad) x.length cx), .val (.int .i64 (i : Int)), .val (.pointer (some (ad.add (i * 7)))), .val (.pointer (some ((ad.add (i * 7)).add 0))), .val (.int .i64 3), .val (.bool true), .val (.bool true), .val ((bif ((true) == true) then (.slice (some ⟨gc, 0, none⟩) x.length x.length) else undef)), .val ((bif ((true) == true) then (.int .i64 (i : Int)) else undef)), .val ((bif ((true) == true) then (.pointer (some ⟨gc, i, none⟩)) else undef)), .val ((bif ((true) == true) then (.bool false) else undef)), .val ((bif ((true) == true) then (.bool true) else undef)), .val (.bool true), .val (.bool true), .val ((bif ((true) == true) then (.slice (some ad) x.length cx) else undef)), .val ((bif ((true) == true) then (.slice Ap (x.length + 1) cp) else undef)), .val ((bif ((true) == true) then (.int .i64 (i : Int)) else undef)), .val ((bif ((true) == true) then (.int .i64 (off x fc i)) else undef)), .val ((bif ((true) == true) then (.bool (decide ((off x fc i) < (-4096)))) else undef)), .val ((bif ((true) == true) then (.bool (decide ((off x fc i) < (-4096)))) else undef)), .val ((bif ((decide ((off x fc i) < (-4096))) == false) then (.slice (some ad) x.length cx) else undef)), .val ((bif ((decide ((off x fc i) < (-4096))) == false) then (.slice Ap (x.length + 1) cp) else undef)), .val ((bif ((decide ((off x fc i) < (-4096))) == false) then (.int .i64 (i : Int)) else undef)), .val ((bif ((decide ((off x fc i) < (-4096))) == false) then (.int .i64 (off x fc i)) else undef)), .val ((bif ((decide ((off x fc i) < (-4096))) == false) then (.bool (decide (4094 < (off x fc i)))) else undef)), .val ((bif ((true) == true) then (.bool (decide (off x fc i < (-4096)) || decide (4094 < off x fc i))) else undef)), .val (.bool (decide (off x fc i < (-4096)) || decide (4094 < off x fc i)))] (fun W => (Below U.heap.size U W ∧ W.heap[gc]? = some (.cells (boolA fc x.length) 4 (0, 0))) ∧ Kd.C (Kd.int .i64) W Ap (x.length + 1) (begs x fc (x.length + 1))) (by kernel_rfl) hG ?_ ?_
      · intro vs W hG b hb
        have e5 : b.eval (.tmp 5) = .slice (some ad) x.length cx := eo hb (by kernel_rfl)
        have e9 : b.eval (.tmp 9) = .slice (some ⟨gc, 0, none⟩) x.length x.length := eo hb (by kernel_rfl)
        have e12 : b.eval (.tmp 12) = .slice Ap (x.length + 1) cp := eo hb (by kernel_rfl)
        have e13 : b.eval (.tmp 13) = .int .i64 (i : Int) := eo hb (by kernel_rfl)
        have i70 := ei (d := 70) hb 0 (by kernel_rfl) rfl rfl (by simp)
        have i71 := ei (d := 71) hb 1 (by kernel_rfl) rfl rfl (by simp)
        have i72 := ei (d := 72) hb 2 (by kernel_rfl) rfl rfl (by simp)
        have i73 := ei (d := 73) hb 3 (by kernel_rfl) rfl rfl (by simp)
        have i74 := ei (d := 74) hb 4 (by kernel_rfl) rfl rfl (by simp)
        have i75 := ei (d := 75) hb 5 (by kernel_rfl) rfl rfl (by simp)
        have i76 := ei (d := 76) hb 6 (by kernel_rfl) rfl rfl (by simp)
        have i77 := ei (d := 77) hb 7 (by kernel_rfl) rfl rfl (by simp)
        have i78 := ei (d := 78) hb 8 (by kernel_rfl) rfl rfl (by simp)
        have i79 := ei (d := 79) hb 9 (by kernel_rfl) rfl rfl (by simp)
        have i80 := ei (d := 80) hb 10 (by kernel_rfl) rfl rfl (by simp)
        have i81 := ei (d := 81) hb 11 (by kernel_rfl) rfl rfl (by simp)
        have i82 := ei (d := 82) hb 12 (by kernel_rfl) rfl rfl (by simp)
        have i83 := ei (d := 83) hb 13 (by kernel_rfl) rfl rfl (by simp)
        have i84 := ei (d := 84) hb 14 (by kernel_rfl) rfl rfl (by simp)
        have i85 := ei (d := 85) hb 15 (by kernel_rfl) rfl rfl (by simp)
        have i86 := ei (d := 86) hb 16 (by kernel_rfl) rfl rfl (by simp)
        have i87 := ei (d := 87) hb 17 (by kernel_rfl) rfl rfl (by simp)
        have i88 := ei (d := 88) hb 18 (by kernel_rfl) rfl rfl (by simp)
        have i89 := ei (d := 89) hb 19 (by kernel_rfl) rfl rfl (by simp)
        have i90 := ei (d := 90) hb 20 (by kernel_rfl) rfl rfl (by simp)
        have i91 := ei (d := 91) hb 21 (by kernel_rfl) rfl rfl (by simp)
        have i92 := ei (d := 92) hb 22 (by kernel_rfl) rfl rfl (by simp)
        have i93 := ei (d := 93) hb 23 (by kernel_rfl) rfl rfl (by simp)
        have i94 := ei (d := 94) hb 24 (by kernel_rfl) rfl rfl (by simp)
        have i95 := ei (d := 95) hb 25 (by kernel_rfl) rfl rfl (by simp)
        clear hb
        refine And.intro ?_ (And.intro ?_ (And.intro ?_ (And.intro ?_ (And.intro ?_ (And.intro ?_ (And.intro ?_ (And.intro ?_ (And.intro ?_ (And.intro ?_ (And.intro ?_ (And.intro ?_ (And.intro ?_ (And.intro ?_ (And.intro ?_ (And.intro ?_ (And.intro ?_ (And.intro ?_ (And.intro ?_ (And.intro ?_ (And.intro ?_ (And.intro ?_ (And.intro ?_ (And.intro ?_ (And.intro ?_ (And.intro ?_ (And.intro ?_ (trivial)))))))))))))))))))))))))))
        · intro hp K hK
          refine g_no rfl ?_
          exact st_move (.inl rfl) (e5) (hK _ _ rfl hG (Below.refl _ _))
        · intro hp K hK
          refine g_no rfl ?_
          exact st_move (.inl rfl) (e13) (hK _ _ rfl hG (Below.refl _ _))
        · intro hp K hK
          refine g_no rfl ?_
          have e70 : b.eval (.tmp 70) = _ := i70.trans (hp 0 (by kernel_rfl))
          have e71 : b.eval (.tmp 71) = _ := i71.trans (hp 1 (by kernel_rfl))
          exact st_index rfl (e70) (e71) (ix23 hil _) (hK _ _ rfl hG (Below.refl _ _))
        · intro hp K hK
          refine g_no rfl ?_
          have e72 : b.eval (.tmp 72) = _ := i72.trans (hp 2 (by kernel_rfl))
          exact st_field rfl (e72) (fa34k _ _) (hK _ _ rfl hG (Below.refl _ _))
        · intro hp K hK
          refine g_no rfl ?_
          have e73 : b.eval (.tmp 73) = _ := i73.trans (hp 3 (by kernel_rfl))
          exact st_load rfl (e73) (by obtain ⟨a', ha', hl'⟩ := ld_fld (Kd.C_below HU.out.1.2 hG.1.1) (q := 0) hil rfl; rw [Option.some.inj ha']; replace hl' : W.cell? _ = some (Value.int .i64 (x.getD i z34).f0) := hl'; rw [hk3] at hl'; exact ld_cell 3 (by kernel_rfl) hl') (hK _ _ rfl hG (Below.refl _ _))
        · intro hp K hK
          refine g_no rfl ?_
          have e74 : b.eval (.tmp 74) = _ := i74.trans (hp 4 (by kernel_rfl))
          exact st_bin rfl (e74) (eval_const _) b_eql (hK _ _ rfl hG (Below.refl _ _))
        · intro hp K hK
          refine g_no rfl ?_
          have e75 : b.eval (.tmp 75) = _ := i75.trans (hp 5 (by kernel_rfl))
          exact st_move (.inl rfl) (e75) (hK _ _ rfl hG (Below.refl _ _))
        · intro hp K hK
          refine g_is (j := 6) (want := true) (c := true) rfl (yielded_of (d := 76) rfl rfl (i76.trans (hp 6 (by kernel_rfl)))) (fun hb => ?_) (fun hb => hK _ _ (cond_no hb) hG (Below.refl _ _))
          exact st_move (.inl rfl) (e9) (hK _ _ (cond_yes hb).symm hG (Below.refl _ _))
        · intro hp K hK
          refine g_is (j := 6) (want := true) (c := true) rfl (yielded_of (d := 76) rfl rfl (i76.trans (hp 6 (by kernel_rfl)))) (fun hb => ?_) (fun hb => hK _ _ (cond_no hb) hG (Below.refl _ _))
          exact st_move (.inl rfl) (e13) (hK _ _ (cond_yes hb).symm hG (Below.refl _ _))
        · intro hp K hK
          refine g_is (j := 6) (want := true) (c := true) rfl (yielded_of (d := 76) rfl rfl (i76.trans (hp 6 (by kernel_rfl)))) (fun hb => ?_) (fun hb => hK _ _ (cond_no hb) hG (Below.refl _ _))
          have e77 : b.eval (.tmp 77) = _ := i77.trans (hp 7 (by kernel_rfl))
          replace e77 := e77.trans (cond_yes hb)
          have e78 : b.eval (.tmp 78) = _ := i78.trans (hp 8 (by kernel_rfl))
          replace e78 := e78.trans (cond_yes hb)
          exact st_index rfl (e77) (e78) (by have h := ix26 (ad := ⟨gc, 0, none⟩) (c := x.length) hil W; rwa [Addr.add_mid, Nat.zero_add] at h) (hK _ _ (cond_yes hb).symm hG (Below.refl _ _))
        · intro hp K hK
          refine g_is (j := 6) (want := true) (c := true) rfl (yielded_of (d := 76) rfl rfl (i76.trans (hp 6 (by kernel_rfl)))) (fun hb => ?_) (fun hb => hK _ _ (cond_no hb) hG (Below.refl _ _))
          have e79 : b.eval (.tmp 79) = _ := i79.trans (hp 9 (by kernel_rfl))
          replace e79 := e79.trans (cond_yes hb)
          exact st_load rfl (e79) (ld_cell 4 (by kernel_rfl) ((blk_cell hG.1.2 i).trans ((boolA_get _ hil).trans (by first | rfl | (rw [hfi]))))) (hK _ _ (cond_yes hb).symm hG (Below.refl _ _))
        · intro hp K hK
          refine g_is (j := 6) (want := true) (c := true) rfl (yielded_of (d := 76) rfl rfl (i76.trans (hp 6 (by kernel_rfl)))) (fun hb => ?_) (fun hb => hK _ _ (cond_no hb) hG (Below.refl _ _))
          have e80 : b.eval (.tmp 80) = _ := i80.trans (hp 10 (by kernel_rfl))
          replace e80 := e80.trans (cond_yes hb)
          exact st_un rfl (e80) u_not (hK _ _ (cond_yes hb).symm hG (Below.refl _ _))
        · intro hp K hK
          refine g_no rfl ?_
          have e76 : b.eval (.tmp 76) = _ := i76.trans (hp 6 (by kernel_rfl))
          have e81 : b.eval (.tmp 81) = _ := i81.trans (hp 11 (by kernel_rfl))
          exact st_pick rfl (e76) (by first | (rw [e81]; exact rfl) | (rw [show b.eval (Operand.tmp 81) = _ from eval_const _]; exact rfl)) (hK _ _ rfl hG (Below.refl _ _))
        · intro hp K hK
          refine g_no rfl ?_
          have e82 : b.eval (.tmp 82) = _ := i82.trans (hp 12 (by kernel_rfl))
          exact st_move (.inl rfl) (e82) (hK _ _ rfl hG (Below.refl _ _))
        · intro hp K hK
          refine g_is (j := 13) (want := true) (c := true) rfl (yielded_of (d := 83) rfl rfl (i83.trans (hp 13 (by kernel_rfl)))) (fun hb => ?_) (fun hb => hK _ _ (cond_no hb) hG (Below.refl _ _))
          exact st_move (.inl rfl) (e5) (hK _ _ (cond_yes hb).symm hG (Below.refl _ _))
        · intro hp K hK
          refine g_is (j := 13) (want := true) (c := true) rfl (yielded_of (d := 83) rfl rfl (i83.trans (hp 13 (by kernel_rfl)))) (fun hb => ?_) (fun hb => hK _ _ (cond_no hb) hG (Below.refl _ _))
          exact st_move (.inl rfl) (e12) (hK _ _ (cond_yes hb).symm hG (Below.refl _ _))
        · intro hp K hK
          refine g_is (j := 13) (want := true) (c := true) rfl (yielded_of (d := 83) rfl rfl (i83.trans (hp 13 (by kernel_rfl)))) (fun hb => ?_) (fun hb => hK _ _ (cond_no hb) hG (Below.refl _ _))
          exact st_move (.inl rfl) (e13) (hK _ _ (cond_yes hb).symm hG (Below.refl _ _))
        · intro hp K hK
          refine g_is (j := 13) (want := true) (c := true) rfl (yielded_of (d := 83) rfl rfl (i83.trans (hp 13 (by kernel_rfl)))) (fun hb => ?_) (fun hb => hK _ _ (cond_no hb) hG (Below.refl _ _))
          have e84 : b.eval (.tmp 84) = _ := i84.trans (hp 14 (by kernel_rfl))
          replace e84 := e84.trans (cond_yes hb)
          have e85 : b.eval (.tmp 85) = _ := i85.trans (hp 15 (by kernel_rfl))
          replace e85 := e85.trans (cond_yes hb)
          have e86 : b.eval (.tmp 86) = _ := i86.trans (hp 16 (by kernel_rfl))
          replace e86 := e86.trans (cond_yes hb)
          refine st_call rfl (by first | (simp only [List.map_toArray, List.map_cons, List.map_nil, eval_const, e84, e85, e86]; done) | (simp only [List.map_toArray, List.map_cons, List.map_nil, eval_const, e84, e85, e86]; rfl)) (by kernel_rfl) ?_
          refine (by_is (some ad) Ap cx cp x fc i _ HN.out hcx ho.2.1 hil hlb (Kd.C_below HU.out.1.2 hG.1.1) hG.2).mono ?_
          rintro e w' ⟨rfl, hb'⟩
          exact ⟨_, rfl, hK _ _ (cond_yes hb).symm ⟨⟨below_step hG.1.1 hb', blk_below hG.1.2 hb'⟩, Kd.C_below hG.2 hb'⟩ hb'⟩
        · intro hp K hK
          refine g_is (j := 13) (want := true) (c := true) rfl (yielded_of (d := 83) rfl rfl (i83.trans (hp 13 (by kernel_rfl)))) (fun hb => ?_) (fun hb => hK _ _ (cond_no hb) hG (Below.refl _ _))
          have e87 : b.eval (.tmp 87) = _ := i87.trans (hp 17 (by kernel_rfl))
          replace e87 := e87.trans (cond_yes hb)
          exact st_bin rfl (e87) (eval_const _) b_lss (hK _ _ (cond_yes hb).symm hG (Below.refl _ _))
        · intro hp K hK
          refine g_is (j := 13) (want := true) (c := true) rfl (yielded_of (d := 83) rfl rfl (i83.trans (hp 13 (by kernel_rfl)))) (fun hb => ?_) (fun hb => hK _ _ (cond_no hb) hG (Below.refl _ _))
          have e88 : b.eval (.tmp 88) = _ := i88.trans (hp 18 (by kernel_rfl))
          replace e88 := e88.trans (cond_yes hb)
          exact st_move (.inl rfl) (e88) (hK _ _ (cond_yes hb).symm hG (Below.refl _ _))
        · intro hp K hK
          refine g_is (j := 19) (want := false) (c := decide ((off x fc i) < (-4096))) rfl (yielded_of (d := 89) rfl rfl (i89.trans (hp 19 (by kernel_rfl)))) (fun hb => ?_) (fun hb => hK _ _ (cond_no hb) hG (Below.refl _ _))
          exact st_move (.inl rfl) (e5) (hK _ _ (cond_yes hb).symm hG (Below.refl _ _))
        · intro hp K hK
          refine g_is (j := 19) (want := false) (c := decide ((off x fc i) < (-4096))) rfl (yielded_of (d := 89) rfl rfl (i89.trans (hp 19 (by kernel_rfl)))) (fun hb => ?_) (fun hb => hK _ _ (cond_no hb) hG (Below.refl _ _))
          exact st_move (.inl rfl) (e12) (hK _ _ (cond_yes hb).symm hG (Below.refl _ _))
        · intro hp K hK
          refine g_is (j := 19) (want := false) (c := decide ((off x fc i) < (-4096))) rfl (yielded_of (d := 89) rfl rfl (i89.trans (hp 19 (by kernel_rfl)))) (fun hb => ?_) (fun hb => hK _ _ (cond_no hb) hG (Below.refl _ _))
          exact st_move (.inl rfl) (e13) (hK _ _ (cond_yes hb).symm hG (Below.refl _ _))
        · intro hp K hK
          refine g_is (j := 19) (want := false) (c := decide ((off x fc i) < (-4096))) rfl (yielded_of (d := 89) rfl rfl (i89.trans (hp 19 (by kernel_rfl)))) (fun hb => ?_) (fun hb => hK _ _ (cond_no hb) hG (Below.refl _ _))
          have e90 : b.eval (.tmp 90) = _ := i90.trans (hp 20 (by kernel_rfl))
          replace e90 := e90.trans (cond_yes hb)
          have e91 : b.eval (.tmp 91) = _ := i91.trans (hp 21 (by kernel_rfl))
          replace e91 := e91.trans (cond_yes hb)
          have e92 : b.eval (.tmp 92) = _ := i92.trans (hp 22 (by kernel_rfl))
          replace e92 := e92.trans (cond_yes hb)
          refine st_call rfl (by first | (simp only [List.map_toArray, List.map_cons, List.map_nil, eval_const, e90, e91, e92]; done) | (simp only [List.map_toArray, List.map_cons, List.map_nil, eval_const, e90, e91, e92]; rfl)) (by kernel_rfl) ?_
          refine (by_is (some ad) Ap cx cp x fc i _ HN.out hcx ho.2.1 hil hlb (Kd.C_below HU.out.1.2 hG.1.1) hG.2).mono ?_
          rintro e w' ⟨rfl, hb'⟩
          exact ⟨_, rfl, hK _ _ (cond_yes hb).symm ⟨⟨below_step hG.1.1 hb', blk_below hG.1.2 hb'⟩, Kd.C_below hG.2 hb'⟩ hb'⟩
        · intro hp K hK
          refine g_is (j := 19) (want := false) (c := decide ((off x fc i) < (-4096))) rfl (yielded_of (d := 89) rfl rfl (i89.trans (hp 19 (by kernel_rfl)))) (fun hb => ?_) (fun hb => hK _ _ (cond_no hb) hG (Below.refl _ _))
          have e93 : b.eval (.tmp 93) = _ := i93.trans (hp 23 (by kernel_rfl))
          replace e93 := e93.trans (cond_yes hb)
          exact st_bin rfl (e93) (eval_const _) b_gtr (hK _ _ (cond_yes hb).symm hG (Below.refl _ _))
        · intro hp K hK
          refine g_is (j := 13) (want := true) (c := true) rfl (yielded_of (d := 83) rfl rfl (i83.trans (hp 13 (by kernel_rfl)))) (fun hb => ?_) (fun hb => hK _ _ (cond_no hb) hG (Below.refl _ _))
          have e89 : b.eval (.tmp 89) = _ := i89.trans (hp 19 (by kernel_rfl))
          replace e89 := e89.trans (cond_yes hb)
          have e94 : b.eval (.tmp 94) = _ := i94.trans (hp 24 (by kernel_rfl))
          exact st_pick rfl (e89) (by first | (rw [e94]; exact pick_or) | (rw [show b.eval (Operand.tmp 94) = _ from eval_const _]; exact pick_or)) (hK _ _ (cond_yes hb).symm hG (Below.refl _ _))
        · intro hp K hK
          refine g_no rfl ?_
          have e83 : b.eval (.tmp 83) = _ := i83.trans (hp 13 (by kernel_rfl))
          have e95 : b.eval (.tmp 95) = _ := i95.trans (hp 25 (by kernel_rfl))
          exact st_pick rfl (e83) (by first | (rw [e95]; exact rfl) | (rw [show b.eval (Operand.tmp 95) = _ from eval_const _]; exact rfl)) (hK _ _ rfl hG (Below.refl _ _))
      intro vs W hG hp b hb
      have q26 : vs 26 = _ := hp 26 (by decide)
      clear hp
      simp only [fill, Act.put, List.append_eq, List.cons_append, List.nil_append, List.take_succ_cons, List.take_zero, List.setIfInBounds_toArray, List.set_cons_succ, List.set_cons_zero, Nat.reduceAdd, Nat.zero_add, q26] at hb
      subst hb
      refine wpList_nil ?_
      clear q26
      refine HK26.out _ _ ?_
      clear HK26
      refine wp_cond_split rfl (fun hq => ?_) (fun hq => ?_)
      · skip
        apply wp_seq_k
        intro K27 hK27
        have HK27 := Lib.hid hK27
        clear hK27
        refine wp_listed (R := fun W W' => Below W.heap.size W W') 2 [.val (.bool true), .val (.bool true)] (fun W => (Below U.heap.size U W ∧ W.heap[gc]? = some (.cells (boolA fc x.length) 4 (0, 0))) ∧ Kd.C (Kd.int .i64) W Ap (x.length + 1) (begs x fc (x.length + 1))) (by kernel_rfl) hG ?_ ?_
        · intro vs W hG b hb
          have i97 := ei (d := 97) hb 0 (by kernel_rfl) rfl rfl (by simp)
          clear hb
          refine And.intro ?_ (And.intro ?_ (trivial))
          · intro hp K hK
            refine g_no rfl ?_
            refine st_call rfl (by first | (simp only [List.map_toArray, List.map_cons, List.map_nil, eval_const]; done) | (simp only [List.map_toArray, List.map_cons, List.map_nil, eval_const]; rfl)) (by kernel_rfl) ?_
            refine (lives_is _).mono ?_
            rintro e w' ⟨rfl, hb'⟩
            exact ⟨_, rfl, hK _ _ rfl ⟨⟨below_step hG.1.1 hb', blk_below hG.1.2 hb'⟩, Kd.C_below hG.2 hb'⟩ hb'⟩
          · intro hp K hK
            refine g_no rfl ?_
            have e97 : b.eval (.tmp 97) = _ := i97.trans (hp 0 (by kernel_rfl))
            exact st_move (.inr rfl) (e97) (hK _ _ rfl hG (Below.refl _ _))
        intro vs W hG hp b hb
        have q1 : vs 1 = _ := hp 1 (by decide)
        clear hp
        simp only [fill, Act.put, List.append_eq, List.cons_append, List.nil_append, List.take_succ_cons, List.take_zero, List.setIfInBounds_toArray, List.set_cons_succ, List.set_cons_zero, Nat.reduceAdd, Nat.zero_add, q1] at hb
        subst hb
        refine wpList_nil ?_
        clear q1
        refine HK27.out _ _ ?_
        clear HK27
        have HG := Lib.hid (below_step HU.out.1.1 hG.1.1)
        clear hG
        go_wp2
        go_ret
        exact ⟨rfl, HG.out⟩
      have hw : -4096 ≤ off x fc i ∧ off x fc i ≤ 4094 := by
        rw [Bool.or_eq_false_iff] at hq
        have h1 := of_decide_eq_false hq.1
        have h2 := of_decide_eq_false hq.2
        omega
      clear hq
      apply wp_skip
      simp only [Exit.inBlock, Exit.then, ↓reduceIte]
      refine HK25.out _ _ ?_
      clear HK25
      have HG := Lib.hid hG
      have Hil := Lib.hid hil
      have HI2 := Lib.hid hi.2
      clear hG hil hi
      go_wp2
      refine ⟨loop_frame (by kernel_rfl), ⟨i + 1, by show Value.int .i64 _ = _; simp, ⟨Hil.out, fun j hj h3 hf => ?_⟩, HG.out⟩, Msr.lt (by have := Hil.out; omega)⟩
      by_cases e : j = i
      · subst e
        exact hw
      · exact HI2.out j (by omega) h3 hf
  have hle : i = x.length := by have := of_decide_eq_false hlt; omega
  clear hlt
  apply wp_exit
  simp only [Exit.inBlock, Exit.then, ↓reduceIte]
  subst hle
  have hgood : good x fc := hi.2
  have hle2 := fun i => HFI.out.2 fc hgood i
  have HLE := Lib.hid hle2
  clear hi hgood hle2
  refine HK21.out _ _ ?_
  clear HK21
  apply wp_seq_k
  intro K28 hK28
  have HK28 := Lib.hid hK28
  clear hK28
  apply wp_seq_k
  intro K29 hK29
  have HK29 := Lib.hid hK29
  clear hK29
  have HG := Lib.hid hG
  clear hG
  go_wp2
  refine HK29.out _ _ ?_
  clear HK29
  apply wp_block
  refine wp_loopS [14, 98, 99, 100, 101, 102, 103, 104, 105, 106, 107, 108, 109, 110, 111, 112, 113, 114] (fun sl W => ∃ i : Nat, sl 14 = .int .i64 (i : Int) ∧ i ≤ x.length ∧ (Below U.heap.size U W ∧ W.heap[gc]? = some (.cells (boolA fc x.length) 4 (0, 0))) ∧ Kd.C (Kd.int .i64) W Ap (x.length + 1) (begs x fc (x.length + 1))) (fun sl W => Msr (x.length : Int) (sl 14)) ⟨0, rfl, Nat.zero_le _, HG.out⟩ ?_
  clear HG
  intro vs W b hb hI
  obtain ⟨i, hsl, hi, hG⟩ := hI
  simp only [setSlots, Act.put, List.setIfInBounds_toArray, List.set_cons_succ, List.set_cons_zero] at hb
  subst hb
  replace hsl : vs 14 = .int .i64 (i : Int) := hsl
  rw [hsl]
  clear hsl
  apply wp_seq_k
  intro K30 hK30
  have HK30 := Lib.hid hK30
  clear hK30
  apply wp_seq_k
  intro K31 hK31
  have HK31 := Lib.hid hK31
  clear hK31
  refine wp_listed (R := fun W W' => Below W.heap.size W W') 4 [.val (.int .i64 (i : Int)), .val (.slice Ax x.length cx), .val (.int .i64 ((x.length : Nat) : Int)), .val (.bool (decide ((i : Int) < ((x.length : Nat) : Int))))] (fun W => (Below U.heap.size U W ∧ W.heap[gc]? = some (.cells (boolA fc x.length) 4 (0, 0))) ∧ Kd.C (Kd.int .i64) W Ap (x.length + 1) (begs x fc (x.length + 1))) (by kernel_rfl) hG ?_ ?_
  · intro vs W hG b hb
    have e5 : b.eval (.tmp 5) = .slice Ax x.length cx := eo hb (by kernel_rfl)
    have e14 : b.eval (.tmp 14) = .int .i64 (i : Int) := eo hb (by kernel_rfl)
    have i98 := ei (d := 98) hb 0 (by kernel_rfl) rfl rfl (by simp)
    have i99 := ei (d := 99) hb 1 (by kernel_rfl) rfl rfl (by simp)
    have i100 := ei (d := 100) hb 2 (by kernel_rfl) rfl rfl (by simp)
    clear hb
    refine And.intro ?_ (And.intro ?_ (And.intro ?_ (And.intro ?_ (trivial))))
    · intro hp K hK
      refine g_no rfl ?_
      exact st_move (.inl rfl) (e14) (hK _ _ rfl hG (Below.refl _ _))
    · intro hp K hK
      refine g_no rfl ?_
      exact st_move (.inl rfl) (e5) (hK _ _ rfl hG (Below.refl _ _))
    · intro hp K hK
      refine g_no rfl ?_
      have e99 : b.eval (.tmp 99) = _ := i99.trans (hp 1 (by kernel_rfl))
      exact st_builtin rfl (by first | (simp only [List.map_toArray, List.map_cons, List.map_nil, eval_const, e99]; done) | (simp only [List.map_toArray, List.map_cons, List.map_nil, eval_const, e99]; rfl)) (fun cs => b_len 23 (by decide) cs _) (hK _ _ rfl hG (Below.refl _ _))
    · intro hp K hK
      refine g_no rfl ?_
      have e98 : b.eval (.tmp 98) = _ := i98.trans (hp 0 (by kernel_rfl))
      have e100 : b.eval (.tmp 100) = _ := i100.trans (hp 2 (by kernel_rfl))
      exact st_bin rfl (e98) (e100) b_lss (hK _ _ rfl hG (Below.refl _ _))
  intro vs W hG hp b hb
  have q3 : vs 3 = _ := hp 3 (by decide)
  clear hp
  simp only [fill, Act.put, List.append_eq, List.cons_append, List.nil_append, List.take_succ_cons, List.take_zero, List.setIfInBounds_toArray, List.set_cons_succ, List.set_cons_zero, Nat.reduceAdd, Nat.zero_add, q3] at hb
  subst hb
  refine wpList_nil ?_
  clear q3
  refine HK31.out _ _ ?_
  clear HK31
  refine wp_cond_split rfl (fun hlt => ?_) (fun hlt => ?_)
  · skip
    have hil : i < x.length := by have := of_decide_eq_true hlt; omega
    clear hlt
    apply wp_skip
    simp only [Exit.then]
    refine HK30.out _ _ ?_
    clear HK30
    apply wp_seq_k
    intro K32 hK32
    have HK32 := Lib.hid hK32
    clear hK32
    apply wp_block
    apply wp_seq_k
    intro K33 hK33
    have HK33 := Lib.hid hK33
    clear hK33
    refine wp_listed (R := fun W W' => Below W.heap.size W W') 11 [.val (.slice (some ⟨gf, 0, none⟩) x.length x.length), .val (.int .i64 (i : Int)), .val (.pointer (some ⟨gf, 0 + i, none⟩)), .val (.bool (far i)), .val (.bool (far i)), .val ((bif ((far i) == true) then (.slice (some ⟨gc, 0, none⟩) x.length x.length) else undef)), .val ((bif ((far i) == true) then (.int .i64 (i : Int)) else undef)), .val ((bif ((far i) == true) then (.pointer (some ⟨gc, i, none⟩)) else undef)), .val ((bif ((far i) == true) then (.bool (fc i)) else undef)), .val ((bif ((far i) == true) then (.bool (!(fc i))) else undef)), .val (.bool ((far i) && (!(fc i))))] (fun W => (Below U.heap.size U W ∧ W.heap[gc]? = some (.cells (boolA fc x.length) 4 (0, 0))) ∧ Kd.C (Kd.int .i64) W Ap (x.length + 1) (begs x fc (x.length + 1))) (by kernel_rfl) hG ?_ ?_
    · intro vs W hG b hb
      have e7 : b.eval (.tmp 7) = .slice (some ⟨gf, 0, none⟩) x.length x.length := eo hb (by kernel_rfl)
      have e9 : b.eval (.tmp 9) = .slice (some ⟨gc, 0, none⟩) x.length x.length := eo hb (by kernel_rfl)
      have e14 : b.eval (.tmp 14) = .int .i64 (i : Int) := eo hb (by kernel_rfl)
      have i104 := ei (d := 104) hb 0 (by kernel_rfl) rfl rfl (by simp)
      have i105 := ei (d := 105) hb 1 (by kernel_rfl) rfl rfl (by simp)
      have i106 := ei (d := 106) hb 2 (by kernel_rfl) rfl rfl (by simp)
      have i107 := ei (d := 107) hb 3 (by kernel_rfl) rfl rfl (by simp)
      have i108 := ei (d := 108) hb 4 (by kernel_rfl) rfl rfl (by simp)
      have i109 := ei (d := 109) hb 5 (by kernel_rfl) rfl rfl (by simp)
      have i110 := ei (d := 110) hb 6 (by kernel_rfl) rfl rfl (by simp)
      have i111 := ei (d := 111) hb 7 (by kernel_rfl) rfl rfl (by simp)
      have i112 := ei (d := 112) hb 8 (by kernel_rfl) rfl rfl (by simp)
      have i113 := ei (d := 113) hb 9 (by kernel_rfl) rfl rfl (by simp)
      clear hb
      refine And.intro ?_ (And.intro ?_ (And.intro ?_ (And.intro ?_ (And.intro ?_ (And.intro ?_ (And.intro ?_ (And.intro ?_ (And.intro ?_ (And.intro ?_ (And.intro ?_ (trivial)))))))))))
      · intro hp K hK
        refine g_no rfl ?_
        exact st_move (.inl rfl) (e7) (hK _ _ rfl hG (Below.refl _ _))
      · intro hp K hK
        refine g_no rfl ?_
        exact st_move (.inl rfl) (e14) (hK _ _ rfl hG (Below.refl _ _))
      · intro hp K hK
        refine g_no rfl ?_
        have e104 : b.eval (.tmp 104) = _ := i104.trans (hp 0 (by kernel_rfl))
        have e105 : b.eval (.tmp 105) = _ := i105.trans (hp 1 (by kernel_rfl))
        exact st_index rfl (e104) (e105) (by have h := ix26 (ad := ⟨gf, 0, none⟩) (c := x.length) hil W; rwa [Addr.add_mid] at h) (hK _ _ rfl hG (Below.refl _ _))
      · intro hp K hK
        refine g_no rfl ?_
        have e106 : b.eval (.tmp 106) = _ := i106.trans (hp 2 (by kernel_rfl))
        exact st_load rfl (e106) (by obtain ⟨a', ha', hl'⟩ := ld_far (Kd.C_below HU.out.2.1.2.2 hG.1.1) hil; rw [← Option.some.inj ha', Addr.add_mid] at hl'; exact ld_cell 4 (by kernel_rfl) hl') (hK _ _ rfl hG (Below.refl _ _))
      · intro hp K hK
        refine g_no rfl ?_
        have e107 : b.eval (.tmp 107) = _ := i107.trans (hp 3 (by kernel_rfl))
        exact st_move (.inl rfl) (e107) (hK _ _ rfl hG (Below.refl _ _))
      · intro hp K hK
        refine g_is (j := 4) (want := true) (c := far i) rfl (yielded_of (d := 108) rfl rfl (i108.trans (hp 4 (by kernel_rfl)))) (fun hb => ?_) (fun hb => hK _ _ (cond_no hb) hG (Below.refl _ _))
        exact st_move (.inl rfl) (e9) (hK _ _ (cond_yes hb).symm hG (Below.refl _ _))
      · intro hp K hK
        refine g_is (j := 4) (want := true) (c := far i) rfl (yielded_of (d := 108) rfl rfl (i108.trans (hp 4 (by kernel_rfl)))) (fun hb => ?_) (fun hb => hK _ _ (cond_no hb) hG (Below.refl _ _))
        exact st_move (.inl rfl) (e14) (hK _ _ (cond_yes hb).symm hG (Below.refl _ _))
      · intro hp K hK
        refine g_is (j := 4) (want := true) (c := far i) rfl (yielded_of (d := 108) rfl rfl (i108.trans (hp 4 (by kernel_rfl)))) (fun hb => ?_) (fun hb => hK _ _ (cond_no hb) hG (Below.refl _ _))
        have e109 : b.eval (.tmp 109) = _ := i109.trans (hp 5 (by kernel_rfl))
        replace e109 := e109.trans (cond_yes hb)
        have e110 : b.eval (.tmp 110) = _ := i110.trans (hp 6 (by kernel_rfl))
        replace e110 := e110.trans (cond_yes hb)
        exact st_index rfl (e109) (e110) (by have h := ix26 (ad := ⟨gc, 0, none⟩) (c := x.length) hil W; rwa [Addr.add_mid, Nat.zero_add] at h) (hK _ _ (cond_yes hb).symm hG (Below.refl _ _))
      · intro hp K hK
        refine g_is (j := 4) (want := true) (c := far i) rfl (yielded_of (d := 108) rfl rfl (i108.trans (hp 4 (by kernel_rfl)))) (fun hb => ?_) (fun hb => hK _ _ (cond_no hb) hG (Below.refl _ _))
        have e111 : b.eval (.tmp 111) = _ := i111.trans (hp 7 (by kernel_rfl))
        replace e111 := e111.trans (cond_yes hb)
        exact st_load rfl (e111) (ld_cell 4 (by kernel_rfl) ((blk_cell hG.1.2 i).trans ((boolA_get _ hil).trans (by first | rfl | (rw [hfi]))))) (hK _ _ (cond_yes hb).symm hG (Below.refl _ _))
      · intro hp K hK
        refine g_is (j := 4) (want := true) (c := far i) rfl (yielded_of (d := 108) rfl rfl (i108.trans (hp 4 (by kernel_rfl)))) (fun hb => ?_) (fun hb => hK _ _ (cond_no hb) hG (Below.refl _ _))
        have e112 : b.eval (.tmp 112) = _ := i112.trans (hp 8 (by kernel_rfl))
        replace e112 := e112.trans (cond_yes hb)
        exact st_un rfl (e112) u_not (hK _ _ (cond_yes hb).symm hG (Below.refl _ _))
      · intro hp K hK
        refine g_no rfl ?_
        have e108 : b.eval (.tmp 108) = _ := i108.trans (hp 4 (by kernel_rfl))
        have e113 : b.eval (.tmp 113) = _ := i113.trans (hp 9 (by kernel_rfl))
        exact st_pick rfl (e108) (by first | (rw [e113]; exact pick_and) | (rw [show b.eval (Operand.tmp 113) = _ from eval_const _]; exact pick_and)) (hK _ _ rfl hG (Below.refl _ _))
    intro vs W hG hp b hb
    have q10 : vs 10 = _ := hp 10 (by decide)
    clear hp
    simp only [fill, Act.put, List.append_eq, List.cons_append, List.nil_append, List.take_succ_cons, List.take_zero, List.setIfInBounds_toArray, List.set_cons_succ, List.set_cons_zero, Nat.reduceAdd, Nat.zero_add, q10] at hb
    subst hb
    refine wpList_nil ?_
    clear q10
    refine HK33.out _ _ ?_
    clear HK33
    have hc : ((far i) && (!(fc i))) = false := by
      have h := HLE.out i
      cases q : far i with
      | false => rfl
      | true => rw [h q]; rfl
    rw [hc]
    clear hc
    apply wp_cond_false rfl
    apply wp_skip
    simp only [Exit.inBlock, Exit.then, ↓reduceIte]
    have hinc : IntKind.i64.wrap ((i : Int) + 1) = (i : Int) + 1 := IntWalk.i64_in _ (by have := HN.out; omega)
    refine HK32.out _ _ ?_
    clear HK32
    have HG := Lib.hid hG
    have Hil := Lib.hid hil
    clear hG hil hi
    go_wp2
    exact ⟨loop_frame (by kernel_rfl), ⟨i + 1, by show Value.int .i64 _ = _; simp, Hil.out, HG.out⟩, Msr.lt (by have := Hil.out; omega)⟩
  clear hlt
  apply wp_exit
  simp only [Exit.inBlock, Exit.then, ↓reduceIte]
  refine HK28.out _ _ ?_
  clear HK28
  apply wp_seq_k
  intro K34 hK34
  have HK34 := Lib.hid hK34
  clear hK34
  refine wp_listed (R := fun W W' => Below W.heap.size W W') 2 [.val (.bool true), .val (.bool true)] (fun W => (Below U.heap.size U W ∧ W.heap[gc]? = some (.cells (boolA fc x.length) 4 (0, 0))) ∧ Kd.C (Kd.int .i64) W Ap (x.length + 1) (begs x fc (x.length + 1))) (by kernel_rfl) hG ?_ ?_
  · intro vs W hG b hb
    have i115 := ei (d := 115) hb 0 (by kernel_rfl) rfl rfl (by simp)
    clear hb
    refine And.intro ?_ (And.intro ?_ (trivial))
    · intro hp K hK
      refine g_no rfl ?_
      refine st_call rfl (by first | (simp only [List.map_toArray, List.map_cons, List.map_nil, eval_const]; done) | (simp only [List.map_toArray, List.map_cons, List.map_nil, eval_const]; rfl)) (by kernel_rfl) ?_
      refine (lives_is _).mono ?_
      rintro e w' ⟨rfl, hb'⟩
      exact ⟨_, rfl, hK _ _ rfl ⟨⟨below_step hG.1.1 hb', blk_below hG.1.2 hb'⟩, Kd.C_below hG.2 hb'⟩ hb'⟩
    · intro hp K hK
      refine g_no rfl ?_
      have e115 : b.eval (.tmp 115) = _ := i115.trans (hp 0 (by kernel_rfl))
      exact st_move (.inr rfl) (e115) (hK _ _ rfl hG (Below.refl _ _))
  intro vs W hG hp b hb
  have q1 : vs 1 = _ := hp 1 (by decide)
  clear hp
  simp only [fill, Act.put, List.append_eq, List.cons_append, List.nil_append, List.take_succ_cons, List.take_zero, List.setIfInBounds_toArray, List.set_cons_succ, List.set_cons_zero, Nat.reduceAdd, Nat.zero_add, q1] at hb
  subst hb
  refine wpList_nil ?_
  clear q1
  refine HK34.out _ _ ?_
  clear HK34
  have HG := Lib.hid (below_step HU.out.1.1 hG.1.1)
  clear hG
  go_wp2
  go_ret
  exact ⟨rfl, HG.out⟩
end Go.Proofs.Ytihecimbhhlhaaa.Rl
