/- The registers behind instructions. -/
import Derived.Test.YteglbikbnlebpaaPd1
namespace Go.Proofs.Yteglbikbnlebpaa.Pd
open Go.RowKit Dr PPs
open Go.Proofs.YteglbikbnlebpaaW.PrintWords (Kd Kd.C Kd.C_below Kd.C_get)
set_option linter.unusedVariables false
set_option linter.unusedSimpArgs false
set_option maxRecDepth 100000

set_option maxHeartbeats 8000000 in
theorem does_is (ρ : Nat → Int) (A : Option Addr) (c : Nat) (l : List S38) (w : World) (hl : l.length ≤ 1000) (hF : ∀ x ∈ l, Fine x) (hC : Kd.C k38 w A l.length l) :
    Calls Try.prog 5 #[.agg (arr ρ), .slice A l.length c] w fun e w' => e = .returned (.agg (arr (runs ρ l))) ∧ Below w.heap.size w w' := by
  have HL := Lib.hid hl
  have HF := Lib.hid hF
  have HC := Lib.hid hC
  clear hl hF hC
  go_enter Try.func5, Try.ntmps5
  apply wp_seq_k
  intro K1 hK1
  have HK1 := Lib.hid hK1
  clear hK1
  refine wp_listed (R := fun W W' => Below W.heap.size W W') 2 [newSpec (.cells (arr ρ) 24 (0, 0)) (w.heap.size), newSpec (.cells (arr fun _ => 0) 24 (0, 0)) (w.heap.size)] (fun W => Below w.heap.size w W) (by kernel_rfl) (Below.refl _ _) ?_ ?_
  · intro vs W hG b hb
    have e0 : b.eval (.tmp 0) = .agg (arr ρ) := eo hb (by kernel_rfl)
    clear hb
    refine And.intro ?_ (And.intro ?_ (trivial))
    · intro hp K hK
      refine g_no rfl ?_
      exact st_box rfl (e0) (box24 _ _) (hK _ _ ⟨_, rfl, blk_new _ _, hG.size⟩ (hG.alloc hG.size _) ((Below.refl _ _).alloc (Nat.le_refl _) _))
    · intro hp K hK
      refine g_no rfl ?_
      exact st_alloc rfl (new24 _) (hK _ _ ⟨_, rfl, blk_new _ _, hG.size⟩ (hG.alloc hG.size _) ((Below.refl _ _).alloc (Nat.le_refl _) _))
  intro vs W hG hp b hb
  have q0 : ∃ gg, (vs 0) = .pointer (some ⟨gg, 0, none⟩) ∧ W.heap[gg]? = some (.cells (arr ρ) 24 (0, 0)) ∧ w.heap.size ≤ gg := hp 0 (by decide)
  have q1 : ∃ gg, (vs 1) = .pointer (some ⟨gg, 0, none⟩) ∧ W.heap[gg]? = some (.cells (arr fun _ => 0) 24 (0, 0)) ∧ w.heap.size ≤ gg := hp 1 (by decide)
  clear hp
  simp only [fill, Act.put, List.append_eq, List.cons_append, List.nil_append, List.take_succ_cons, List.take_zero, List.setIfInBounds_toArray, List.set_cons_succ, List.set_cons_zero, Nat.reduceAdd, Nat.zero_add] at hb
  subst hb
  refine wpList_nil ?_
  obtain ⟨g0, hv0, A0, hg0⟩ := q0
  obtain ⟨g1, hv1, A1, hg1⟩ := q1
  rw [hv0, hv1]
  clear hv0 hv1 vs
  refine HK1.out _ _ ?_
  clear HK1
  apply wp_seq_k
  intro K2 hK2
  have HK2 := Lib.hid hK2
  clear hK2
  refine wp_listed (R := fun W W' => Below W.heap.size W W') 4 [.val (.agg (arr ρ)), .val (.agg (marr ρ)), newSpec (.cells (marr ρ) 36 (0, 0)) (g1 + 1), newSpec (.cells (marr ρ) 36 (0, 0)) (g1 + 1)] (fun W => Below w.heap.size w W ∧ W.heap[g0]? = some (.cells (arr ρ) 24 (0, 0)) ∧ W.heap[g1]? = some (.cells (arr fun _ => 0) 24 (0, 0))) (by kernel_rfl) ⟨hG, A0, A1⟩ ?_ ?_
  · intro vs W hG b hb
    have e2 : b.eval (.tmp 2) = .pointer (some ⟨g0, 0, none⟩) := eo hb (by kernel_rfl)
    have i8 := ei (d := 8) hb 0 (by kernel_rfl) rfl rfl (by simp)
    have i9 := ei (d := 9) hb 1 (by kernel_rfl) rfl rfl (by simp)
    have i10 := ei (d := 10) hb 2 (by kernel_rfl) rfl rfl (by simp)
    clear hb
    refine And.intro ?_ (And.intro ?_ (And.intro ?_ (And.intro ?_ (trivial))))
    · intro hp K hK
      refine g_no rfl ?_
      exact st_load rfl (e2) (ld_all 24 _ hG.2.1 Try.underlying24 rfl (by rw [arr_size]; kernel_rfl)) (hK _ _ rfl hG (Below.refl _ _))
    · intro hp K hK
      refine g_no rfl ?_
      have e8 : b.eval (.tmp 8) = _ := i8.trans (hp 0 (by kernel_rfl))
      exact st_build rfl (by first | (simp only [List.map_toArray, List.map_cons, List.map_nil, eval_const, e8]; done) | (simp only [List.map_toArray, List.map_cons, List.map_nil, eval_const, e8]; rfl)) (bld36 _ _) (hK _ _ rfl hG (Below.refl _ _))
    · intro hp K hK
      refine g_no rfl ?_
      have e9 : b.eval (.tmp 9) = _ := i9.trans (hp 1 (by kernel_rfl))
      exact st_box rfl (e9) (box36 _ _) (hK _ _ ⟨_, rfl, blk_new _ _, blk_lt hG.2.2⟩ ⟨hG.1.alloc hG.1.size _, blk_alloc hG.2.1 _, blk_alloc hG.2.2 _⟩ ((Below.refl _ _).alloc (Nat.le_refl _) _))
    · intro hp K hK
      refine g_no rfl ?_
      have q2 : ∃ gg, (vs 2) = .pointer (some ⟨gg, 0, none⟩) ∧ W.heap[gg]? = some (.cells (marr ρ) 36 (0, 0)) ∧ g1 + 1 ≤ gg := hp 2 (by kernel_rfl)
      obtain ⟨gq, hv, hA, hgq⟩ := q2
      have e10 := i10.trans hv
      exact st_move (.inr rfl) (e10) (hK _ _ ⟨_, rfl, hA, hgq⟩ hG (Below.refl _ _))
  intro vs W hG hp b hb
  have q0 : vs 0 = _ := hp 0 (by decide)
  have q1 : vs 1 = _ := hp 1 (by decide)
  have q2 : ∃ gg, (vs 2) = .pointer (some ⟨gg, 0, none⟩) ∧ W.heap[gg]? = some (.cells (marr ρ) 36 (0, 0)) ∧ g1 + 1 ≤ gg := hp 2 (by decide)
  have q3 : ∃ gg, (vs 3) = .pointer (some ⟨gg, 0, none⟩) ∧ W.heap[gg]? = some (.cells (marr ρ) 36 (0, 0)) ∧ g1 + 1 ≤ gg := hp 3 (by decide)
  clear hp
  simp only [fill, Act.put, List.append_eq, List.cons_append, List.nil_append, List.take_succ_cons, List.take_zero, List.setIfInBounds_toArray, List.set_cons_succ, List.set_cons_zero, Nat.reduceAdd, Nat.zero_add, q0, q1] at hb
  subst hb
  refine wpList_nil ?_
  clear q0 q1
  clear A0 A1 q2
  obtain ⟨gm, hv, Am, hgm⟩ := q3
  rw [hv]
  clear hv
  obtain ⟨hB, -, A1⟩ := hG
  clear hg0
  refine HK2.out _ _ ?_
  clear HK2
  apply wp_seq_k
  intro K3 hK3
  have HK3 := Lib.hid hK3
  clear hK3
  apply wp_seq_k
  intro K4 hK4
  have HK4 := Lib.hid hK4
  clear hK4
  have HB := Lib.hid hB
  have HA1 := Lib.hid A1
  have HAm := Lib.hid Am
  clear hB A1 Am
  go_wp2
  refine HK4.out _ _ ?_
  clear HK4
  apply wp_block
  refine wp_loopS [6, 7, 11, 12, 13, 14, 15, 16, 17, 18, 19, 20, 21, 22, 23, 24, 25, 26, 27, 28, 29, 30, 31, 32, 33, 34, 35, 36, 37, 38, 39, 40, 41, 42, 43, 44, 45, 46, 47, 48, 49, 50, 51, 52, 53, 54, 55, 56, 57, 58, 59, 60, 61, 62, 63, 64, 65, 66, 67, 68, 69, 70, 71, 72, 73, 74, 75, 76, 77, 78, 79, 80] (fun sl W => ∃ i : Nat, sl 6 = .int .i64 (i : Int) ∧ i ≤ l.length ∧ Below w.heap.size w W ∧ W.heap[g1]? = some (.cells (arr fun _ => 0) 24 (0, 0)) ∧ W.heap[gm]? = some (.cells (marr (runs ρ (l.take i))) 36 (0, 0))) (fun sl W => Msr (l.length : Int) (sl 6)) ⟨0, rfl, Nat.zero_le _, HB.out, HA1.out, HAm.out⟩ ?_
  intro vs W b hb hI
  clear HB HA1 HAm
  obtain ⟨i, h6, hi, hG⟩ := hI
  simp only [setSlots, Act.put, List.setIfInBounds_toArray, List.set_cons_succ, List.set_cons_zero] at hb
  subst hb
  replace h6 : vs 6 = .int .i64 (i : Int) := h6
  rw [h6]
  clear h6
  generalize hσ : runs ρ (l.take i) = σ at hG
  apply wp_seq_k
  intro K5 hK5
  have HK5 := Lib.hid hK5
  clear hK5
  apply wp_seq_k
  intro K6 hK6
  have HK6 := Lib.hid hK6
  clear hK6
  refine wp_listed (R := fun W W' => Below W.heap.size W W') 4 [.val (.int .i64 (i : Int)), .val (.slice A l.length c), .val (.int .i64 (l.length : Int)), .val (.bool (decide ((i : Int) < (l.length : Int))))] (fun W => Below w.heap.size w W ∧ W.heap[g1]? = some (.cells (arr fun _ => 0) 24 (0, 0)) ∧ W.heap[gm]? = some (.cells (marr σ) 36 (0, 0))) (by kernel_rfl) hG ?_ ?_
  · intro vs W hG b hb
    have e1 : b.eval (.tmp 1) = .slice A l.length c := eo hb (by kernel_rfl)
    have e6 : b.eval (.tmp 6) = .int .i64 (i : Int) := eo hb (by kernel_rfl)
    have i11 := ei (d := 11) hb 0 (by kernel_rfl) rfl rfl (by simp)
    have i12 := ei (d := 12) hb 1 (by kernel_rfl) rfl rfl (by simp)
    have i13 := ei (d := 13) hb 2 (by kernel_rfl) rfl rfl (by simp)
    clear hb
    refine And.intro ?_ (And.intro ?_ (And.intro ?_ (And.intro ?_ (trivial))))
    · intro hp K hK
      refine g_no rfl ?_
      exact st_move (.inl rfl) (e6) (hK _ _ rfl hG (Below.refl _ _))
    · intro hp K hK
      refine g_no rfl ?_
      exact st_move (.inl rfl) (e1) (hK _ _ rfl hG (Below.refl _ _))
    · intro hp K hK
      refine g_no rfl ?_
      have e12 : b.eval (.tmp 12) = _ := i12.trans (hp 1 (by kernel_rfl))
      exact st_builtin rfl (by first | (simp only [List.map_toArray, List.map_cons, List.map_nil, eval_const, e12]; done) | (simp only [List.map_toArray, List.map_cons, List.map_nil, eval_const, e12]; rfl)) (fun cs => b_len cs _) (hK _ _ rfl hG (Below.refl _ _))
    · intro hp K hK
      refine g_no rfl ?_
      have e11 : b.eval (.tmp 11) = _ := i11.trans (hp 0 (by kernel_rfl))
      have e13 : b.eval (.tmp 13) = _ := i13.trans (hp 2 (by kernel_rfl))
      exact st_bin rfl (e11) (e13) b_lss (hK _ _ rfl hG (Below.refl _ _))
  intro vs W hG hp b hb
  have q3 : vs 3 = _ := hp 3 (by decide)
  clear hp
  simp only [fill, Act.put, List.append_eq, List.cons_append, List.nil_append, List.take_succ_cons, List.take_zero, List.setIfInBounds_toArray, List.set_cons_succ, List.set_cons_zero, Nat.reduceAdd, Nat.zero_add, q3] at hb
  subst hb
  refine wpList_nil ?_
  clear q3
  refine HK6.out _ _ ?_
  clear HK6
  refine wp_cond_split rfl (fun hlt => ?_) (fun hlt => ?_)
  rotate_left
  · have hle : i = l.length := by have := of_decide_eq_false hlt; omega
    clear hlt
    apply wp_exit
    simp only [Exit.inBlock, Exit.then, ↓reduceIte]
    refine HK3.out _ _ ?_
    clear HK3
    apply wp_seq_k
    intro K7 hK7
    have HK7 := Lib.hid hK7
    clear hK7
    refine wp_listed (R := fun W W' => Below W.heap.size W W') 4 [.val (.pointer (some ⟨gm, 0, none⟩)), .val (.pointer (some ⟨gm, 0, none⟩)), .val (.pointer (some ⟨gm, 2, none⟩)), .val (.agg (arr σ))] (fun W => Below w.heap.size w W ∧ W.heap[g1]? = some (.cells (arr fun _ => 0) 24 (0, 0)) ∧ W.heap[gm]? = some (.cells (marr σ) 36 (0, 0))) (by kernel_rfl) hG ?_ ?_
    · intro vs W hG b hb
      have e5 : b.eval (.tmp 5) = .pointer (some ⟨gm, 0, none⟩) := eo hb (by kernel_rfl)
      have i81 := ei (d := 81) hb 0 (by kernel_rfl) rfl rfl (by simp)
      have i82 := ei (d := 82) hb 1 (by kernel_rfl) rfl rfl (by simp)
      have i83 := ei (d := 83) hb 2 (by kernel_rfl) rfl rfl (by simp)
      clear hb
      refine And.intro ?_ (And.intro ?_ (And.intro ?_ (And.intro ?_ (trivial))))
      · intro hp K hK
        refine g_no rfl ?_
        exact st_move (.inl rfl) (e5) (hK _ _ rfl hG (Below.refl _ _))
      · intro hp K hK
        refine g_no rfl ?_
        have e81 : b.eval (.tmp 81) = _ := i81.trans (hp 0 (by kernel_rfl))
        exact st_nilCheck rfl (e81) (hK _ _ rfl hG (Below.refl _ _))
      · intro hp K hK
        refine g_no rfl ?_
        have e82 : b.eval (.tmp 82) = _ := i82.trans (hp 1 (by kernel_rfl))
        exact st_field rfl (e82) (by kernel_rfl) (hK _ _ rfl hG (Below.refl _ _))
      · intro hp K hK
        refine g_no rfl ?_
        have e83 : b.eval (.tmp 83) = _ := i83.trans (hp 2 (by kernel_rfl))
        exact st_load rfl (e83) (by have := ld_mid (P := Try.prog) (g := gm) (o := 2) (arr σ).toList 24 _ hG.2.2 (fun j v hv => by unfold marr; rw [Array.getElem?_append_right (by simp)]; simpa using hv) Try.underlying24 rfl (by rw [Array.length_toList, arr_size]; kernel_rfl); simpa using this) (hK _ _ rfl hG (Below.refl _ _))
    intro vs W hG hp b hb
    have q0 : vs 0 = _ := hp 0 (by decide)
    have q1 : vs 1 = _ := hp 1 (by decide)
    have q2 : vs 2 = _ := hp 2 (by decide)
    have q3 : vs 3 = _ := hp 3 (by decide)
    clear hp
    simp only [fill, Act.put, List.append_eq, List.cons_append, List.nil_append, List.take_succ_cons, List.take_zero, List.setIfInBounds_toArray, List.set_cons_succ, List.set_cons_zero, Nat.reduceAdd, Nat.zero_add, q0, q1, q2, q3] at hb
    subst hb
    simp only [List.append_eq, List.cons_append, List.nil_append, List.drop_succ_cons, List.drop_zero]
    clear q0 q1 q2 q3
    refine wpList_store_mid rfl 24 (.tmp 4) (.tmp 84) rfl g1 0 (arr σ) rfl rfl (by rw [arr_size]; exact (arr_size (fun _ => 0)) ▸ blk_there hG.2.1) (by rw [arr_size]; kernel_rfl) (by kernel_rfl) ?_
    refine wpList_nil ?_
    refine HK7.out _ _ ?_
    clear HK7
    have hA := blk_puts (cs' := arr σ) hG.2.1 (by rw [arr_size, arr_size])
    have hBB := below_sets (arr σ).toList 0 w W g1 hG.1 hg1
    go_wp2
    subst hσ
    subst hle
    refine bodyPost_ret (results_c rfl _ _ g1 24 (arr (runs ρ (l.take l.length))) (0, 0) _ rfl hA Try.underlying24 rfl (by rw [arr_size]; kernel_rfl)) rfl ?_
    rw [List.take_length] at hBB ⊢
    exact ⟨rfl, hBB⟩
  have hil : i < l.length := by have := of_decide_eq_true hlt; omega
  clear hlt
  apply wp_skip
  simp only [Exit.then]
  refine HK5.out _ _ ?_
  clear HK5
  have hx : l[i]? = some l[i] := List.getElem?_eq_getElem hil
  have hfx := HF.out _ (List.getElem_mem hil)
  generalize l[i] = x at hx hfx
  have hst : runs ρ (l.take (i + 1)) = stepR σ x := by rw [runs_take hx, hσ]
  clear hσ
  obtain ⟨ad, hAd, -⟩ := ld_ins (Kd.C_below HC.out hG.1) hx
  subst hAd
  apply wp_seq_k
  intro K8 hK8
  have HK8 := Lib.hid hK8
  clear hK8
  apply wp_block
  apply wp_seq_k
  intro K9 hK9
  have HK9 := Lib.hid hK9
  clear hK9
  refine wp_listed (R := fun W W' => Below W.heap.size W W') 5 [.val (.slice (some ad) l.length c), .val (.int .i64 (i : Int)), .val (.pointer (some (ad.add (i * 5)))), .val (.agg #[.int .i64 x.f0, .int .i64 x.f1, .int .i64 x.f2, .int .i64 x.f3, .int .i32 x.f4]), newSpec (ins0) (gm + 1)] (fun W => Below w.heap.size w W ∧ W.heap[g1]? = some (.cells (arr fun _ => 0) 24 (0, 0)) ∧ W.heap[gm]? = some (.cells (marr σ) 36 (0, 0))) (by kernel_rfl) hG ?_ ?_
  · intro vs W hG b hb
    have e1 : b.eval (.tmp 1) = .slice (some ad) l.length c := eo hb (by kernel_rfl)
    have e6 : b.eval (.tmp 6) = .int .i64 (i : Int) := eo hb (by kernel_rfl)
    have i17 := ei (d := 17) hb 0 (by kernel_rfl) rfl rfl (by simp)
    have i18 := ei (d := 18) hb 1 (by kernel_rfl) rfl rfl (by simp)
    have i19 := ei (d := 19) hb 2 (by kernel_rfl) rfl rfl (by simp)
    clear hb
    refine And.intro ?_ (And.intro ?_ (And.intro ?_ (And.intro ?_ (And.intro ?_ (trivial)))))
    · intro hp K hK
      refine g_no rfl ?_
      exact st_move (.inl rfl) (e1) (hK _ _ rfl hG (Below.refl _ _))
    · intro hp K hK
      refine g_no rfl ?_
      exact st_move (.inl rfl) (e6) (hK _ _ rfl hG (Below.refl _ _))
    · intro hp K hK
      refine g_no rfl ?_
      have e17 : b.eval (.tmp 17) = _ := i17.trans (hp 0 (by kernel_rfl))
      have e18 : b.eval (.tmp 18) = _ := i18.trans (hp 1 (by kernel_rfl))
      exact st_index rfl (e17) (e18) (ix25 hil _) (hK _ _ rfl hG (Below.refl _ _))
    · intro hp K hK
      refine g_no rfl ?_
      have e19 : b.eval (.tmp 19) = _ := i19.trans (hp 2 (by kernel_rfl))
      exact st_load rfl (e19) (by obtain ⟨a', ha', hl'⟩ := ld_ins (Kd.C_below HC.out hG.1) hx; rw [Option.some.inj ha']; exact hl') (hK _ _ rfl hG (Below.refl _ _))
    · intro hp K hK
      refine g_no rfl ?_
      exact st_alloc rfl (new38 _) (hK _ _ ⟨_, rfl, blk_new _ _, blk_lt hG.2.2⟩ ⟨hG.1.alloc hG.1.size _, blk_alloc hG.2.1 _, blk_alloc hG.2.2 _⟩ ((Below.refl _ _).alloc (Nat.le_refl _) _))
  intro vs W hG hp b hb
  have q0 : vs 0 = _ := hp 0 (by decide)
  have q1 : vs 1 = _ := hp 1 (by decide)
  have q2 : vs 2 = _ := hp 2 (by decide)
  have q3 : vs 3 = _ := hp 3 (by decide)
  have q4 : ∃ gg, (vs 4) = .pointer (some ⟨gg, 0, none⟩) ∧ W.heap[gg]? = some (ins0) ∧ gm + 1 ≤ gg := hp 4 (by decide)
  clear hp
  simp only [fill, Act.put, List.append_eq, List.cons_append, List.nil_append, List.take_succ_cons, List.take_zero, List.setIfInBounds_toArray, List.set_cons_succ, List.set_cons_zero, Nat.reduceAdd, Nat.zero_add, q0, q1, q2, q3] at hb
  subst hb
  simp only [List.append_eq, List.cons_append, List.nil_append, List.drop_succ_cons, List.drop_zero]
  clear q0 q1 q2 q3
  obtain ⟨gx, hv, Ax, hgx⟩ := q4
  rw [hv]
  clear hv
  have z0 : _ = some (Value.int .i64 0) := (blk_cell Ax 0).trans rfl
  have y0 := blk_frozen Ax 0
  have z1 : _ = some (Value.int .i64 0) := (blk_cell Ax 1).trans rfl
  have y1 := blk_frozen Ax 1
  have z2 : _ = some (Value.int .i64 0) := (blk_cell Ax 2).trans rfl
  have y2 := blk_frozen Ax 2
  have z3 : _ = some (Value.int .i64 0) := (blk_cell Ax 3).trans rfl
  have y3 := blk_frozen Ax 3
  have z4 : _ = some (Value.int .i32 0) := (blk_cell Ax 4).trans rfl
  have y4 := blk_frozen Ax 4
  have hJ := Lib.hid hG
  have hst := Lib.hid hst
  have hx := Lib.hid hx
  have hfx := Lib.hid hfx
  have hil := Lib.hid hil
  have hi := Lib.hid hi
  clear hG
  go_wp2
  replace hJ := hJ.out
  have hwg1 : w.heap.size ≤ g1 := hg1
  have hG : (Below w.heap.size w (((((W.setCell ⟨gx, 0, none⟩ (.int .i64 x.f0)).setCell ⟨gx, 1, none⟩ (.int .i64 x.f1)).setCell ⟨gx, 2, none⟩ (.int .i64 x.f2)).setCell ⟨gx, 3, none⟩ (.int .i64 x.f3)).setCell ⟨gx, 4, none⟩ (.int .i32 x.f4)) ∧ (((((W.setCell ⟨gx, 0, none⟩ (.int .i64 x.f0)).setCell ⟨gx, 1, none⟩ (.int .i64 x.f1)).setCell ⟨gx, 2, none⟩ (.int .i64 x.f2)).setCell ⟨gx, 3, none⟩ (.int .i64 x.f3)).setCell ⟨gx, 4, none⟩ (.int .i32 x.f4)).heap[g1]? = some (.cells (arr fun _ => 0) 24 (0, 0)) ∧ (((((W.setCell ⟨gx, 0, none⟩ (.int .i64 x.f0)).setCell ⟨gx, 1, none⟩ (.int .i64 x.f1)).setCell ⟨gx, 2, none⟩ (.int .i64 x.f2)).setCell ⟨gx, 3, none⟩ (.int .i64 x.f3)).setCell ⟨gx, 4, none⟩ (.int .i32 x.f4)).heap[gm]? = some (.cells (marr σ) 36 (0, 0))) ∧ (((((W.setCell ⟨gx, 0, none⟩ (.int .i64 x.f0)).setCell ⟨gx, 1, none⟩ (.int .i64 x.f1)).setCell ⟨gx, 2, none⟩ (.int .i64 x.f2)).setCell ⟨gx, 3, none⟩ (.int .i64 x.f3)).setCell ⟨gx, 4, none⟩ (.int .i32 x.f4)).heap[gx]? = some (.cells #[.int .i64 x.f0, .int .i64 x.f1, .int .i64 x.f2, .int .i64 x.f3, .int .i32 x.f4] 38 (0, 0)) := ⟨⟨(below_set (below_set (below_set (below_set (below_set hJ.1 (by omega)) (by omega)) (by omega)) (by omega)) (by omega)), (blk_far (blk_far (blk_far (blk_far (blk_far hJ.2.1 (by show _ ≠ gx; omega) _) (by show _ ≠ gx; omega) _) (by show _ ≠ gx; omega) _) (by show _ ≠ gx; omega) _) (by show _ ≠ gx; omega) _), (blk_far (blk_far (blk_far (blk_far (blk_far hJ.2.2 (by show _ ≠ gx; omega) _) (by show _ ≠ gx; omega) _) (by show _ ≠ gx; omega) _) (by show _ ≠ gx; omega) _) (by show _ ≠ gx; omega) _)⟩, (blk_put (blk_put (blk_put (blk_put (blk_put Ax 0 _ rfl) 1 _ rfl) 2 _ rfl) 3 _ rfl) 4 _ rfl)⟩
  generalize ((((W.setCell ⟨gx, 0, none⟩ (.int .i64 x.f0)).setCell ⟨gx, 1, none⟩ (.int .i64 x.f1)).setCell ⟨gx, 2, none⟩ (.int .i64 x.f2)).setCell ⟨gx, 3, none⟩ (.int .i64 x.f3)).setCell ⟨gx, 4, none⟩ (.int .i32 x.f4) = V at *
  clear hJ Ax z0 z1 z2 z3 z4 y0 y1 y2 y3 y4 hwg1
  refine HK9.out _ _ ?_
  clear HK9
  obtain ⟨op, rd, rs1, rs2, im⟩ := x
  obtain ⟨hop, hrd, hr1, hr2⟩ := hfx.out
  dsimp only at hop hrd hr1 hr2
  obtain ⟨rd, rfl⟩ := Int.eq_ofNat_of_zero_le hrd.1
  obtain ⟨rs1, rfl⟩ := Int.eq_ofNat_of_zero_le hr1.1
  obtain ⟨rs2, rfl⟩ := Int.eq_ofNat_of_zero_le hr2.1
  have hrd' : rd < 32 := by omega
  have hr1' : rs1 < 32 := by omega
  have hr2' : rs2 < 32 := by omega
  clear hrd hr1 hr2
  dsimp only at hG
  have hrd' := Lib.hid hrd'
  have hr1' := Lib.hid hr1'
  have hr2' := Lib.hid hr2'
  rcases hop with hop | hop | hop
  · subst hop
    apply wp_seq_k
    intro K10 hK10
    have HK10 := Lib.hid hK10
    clear hK10
    apply wp_seq_k
    intro K11 hK11
    have HK11 := Lib.hid hK11
    clear hK11
    refine wp_listed (R := fun W W' => Below W.heap.size W W') 3 [.val (.pointer (some ⟨gx, 0, none⟩)), .val (.int .i64 42), .val (.bool true)] (fun W => (Below w.heap.size w W ∧ W.heap[g1]? = some (.cells (arr fun _ => 0) 24 (0, 0)) ∧ W.heap[gm]? = some (.cells (marr σ) 36 (0, 0))) ∧ W.heap[gx]? = some (.cells #[.int .i64 42, .int .i64 (rd : Int), .int .i64 (rs1 : Int), .int .i64 (rs2 : Int), .int .i32 im] 38 (0, 0))) (by kernel_rfl) hG ?_ ?_
    · intro vs W hG b hb
      have e7 : b.eval (.tmp 7) = .pointer (some ⟨gx, 0, none⟩) := eo hb (by kernel_rfl)
      have i21 := ei (d := 21) hb 0 (by kernel_rfl) rfl rfl (by simp)
      have i22 := ei (d := 22) hb 1 (by kernel_rfl) rfl rfl (by simp)
      clear hb
      refine And.intro ?_ (And.intro ?_ (And.intro ?_ (trivial)))
      · intro hp K hK
        refine g_no rfl ?_
        exact st_field rfl (e7) (by kernel_rfl) (hK _ _ rfl hG (Below.refl _ _))
      · intro hp K hK
        refine g_no rfl ?_
        have e21 : b.eval (.tmp 21) = _ := i21.trans (hp 0 (by kernel_rfl))
        exact st_load rfl (e21) (ld_cell 3 (by kernel_rfl) ((blk_cell hG.2 0).trans rfl)) (hK _ _ rfl hG (Below.refl _ _))
      · intro hp K hK
        refine g_no rfl ?_
        have e22 : b.eval (.tmp 22) = _ := i22.trans (hp 1 (by kernel_rfl))
        exact st_bin rfl (e22) (eval_const _) b_eql (hK _ _ rfl hG (Below.refl _ _))
    intro vs W hG hp b hb
    have q2 : vs 2 = _ := hp 2 (by decide)
    clear hp
    simp only [fill, Act.put, List.append_eq, List.cons_append, List.nil_append, List.take_succ_cons, List.take_zero, List.setIfInBounds_toArray, List.set_cons_succ, List.set_cons_zero, Nat.reduceAdd, Nat.zero_add, q2] at hb
    subst hb
    refine wpList_nil ?_
    clear q2
    refine HK11.out _ _ ?_
    clear HK11
    apply wp_cond_true rfl
    refine wp_drawn (R := fun W W' => Below W.heap.size W W') 9 [.val (.pointer (some ⟨gm, 0, none⟩)), .val (.pointer (some ⟨gx, 1, none⟩)), .val (.int .i64 (rd : Int)), .val (.pointer (some ⟨gx, 4, none⟩)), .val (.int .i32 im), .val (.int .u32 (IntKind.u32.wrap im)), .val (.pointer (some ⟨gm, 0, none⟩)), .val (.pointer (some ⟨gm, 2, none⟩)), .val (.pointer (some ⟨gm, 2 + rd, none⟩))] (fun W => (Below w.heap.size w W ∧ W.heap[g1]? = some (.cells (arr fun _ => 0) 24 (0, 0)) ∧ W.heap[gm]? = some (.cells (marr σ) 36 (0, 0))) ∧ W.heap[gx]? = some (.cells #[.int .i64 42, .int .i64 (rd : Int), .int .i64 (rs1 : Int), .int .i64 (rs2 : Int), .int .i32 im] 38 (0, 0))) rfl (by kernel_rfl) ⟨⟨hG.1.1.drew, hG.1.2⟩, hG.2⟩ ?_ ?_
    · intro vs W hG b hb
      have e5 : b.eval (.tmp 5) = .pointer (some ⟨gm, 0, none⟩) := eo hb (by kernel_rfl)
      have e7 : b.eval (.tmp 7) = .pointer (some ⟨gx, 0, none⟩) := eo hb (by kernel_rfl)
      have i24 := ei (d := 24) hb 0 (by kernel_rfl) rfl rfl (by simp)
      have i25 := ei (d := 25) hb 1 (by kernel_rfl) rfl rfl (by simp)
      have i26 := ei (d := 26) hb 2 (by kernel_rfl) rfl rfl (by simp)
      have i27 := ei (d := 27) hb 3 (by kernel_rfl) rfl rfl (by simp)
      have i28 := ei (d := 28) hb 4 (by kernel_rfl) rfl rfl (by simp)
      have i30 := ei (d := 30) hb 6 (by kernel_rfl) rfl rfl (by simp)
      have i31 := ei (d := 31) hb 7 (by kernel_rfl) rfl rfl (by simp)
      clear hb
      refine And.intro ?_ (And.intro ?_ (And.intro ?_ (And.intro ?_ (And.intro ?_ (And.intro ?_ (And.intro ?_ (And.intro ?_ (And.intro ?_ (trivial)))))))))
      · intro hp K hK
        refine g_no rfl ?_
        exact st_move (.inl rfl) (e5) (hK _ _ rfl hG (Below.refl _ _))
      · intro hp K hK
        refine g_no rfl ?_
        exact st_field rfl (e7) (by kernel_rfl) (hK _ _ rfl hG (Below.refl _ _))
      · intro hp K hK
        refine g_no rfl ?_
        have e25 : b.eval (.tmp 25) = _ := i25.trans (hp 1 (by kernel_rfl))
        exact st_load rfl (e25) (ld_cell 3 (by kernel_rfl) ((blk_cell hG.2 1).trans rfl)) (hK _ _ rfl hG (Below.refl _ _))
      · intro hp K hK
        refine g_no rfl ?_
        exact st_field rfl (e7) (by kernel_rfl) (hK _ _ rfl hG (Below.refl _ _))
      · intro hp K hK
        refine g_no rfl ?_
        have e27 : b.eval (.tmp 27) = _ := i27.trans (hp 3 (by kernel_rfl))
        exact st_load rfl (e27) (ld_cell 21 (by kernel_rfl) ((blk_cell hG.2 4).trans rfl)) (hK _ _ rfl hG (Below.refl _ _))
      · intro hp K hK
        refine g_no rfl ?_
        have e28 : b.eval (.tmp 28) = _ := i28.trans (hp 4 (by kernel_rfl))
        exact st_conv rfl (e28) (cv _ _) (hK _ _ rfl hG (Below.refl _ _))
      · intro hp K hK
        refine g_no rfl ?_
        have e24 : b.eval (.tmp 24) = _ := i24.trans (hp 0 (by kernel_rfl))
        exact st_nilCheck rfl (e24) (hK _ _ rfl hG (Below.refl _ _))
      · intro hp K hK
        refine g_no rfl ?_
        have e30 : b.eval (.tmp 30) = _ := i30.trans (hp 6 (by kernel_rfl))
        exact st_field rfl (e30) (by kernel_rfl) (hK _ _ rfl hG (Below.refl _ _))
      · intro hp K hK
        refine g_no rfl ?_
        have e26 : b.eval (.tmp 26) = _ := i26.trans (hp 2 (by kernel_rfl))
        have e31 : b.eval (.tmp 31) = _ := i31.trans (hp 7 (by kernel_rfl))
        exact st_index rfl (e31) (e26) (ixa _ _ _ hrd'.out _) (hK _ _ rfl hG (Below.refl _ _))
    intro vs W hG hp b hb
    have q0 : vs 0 = _ := hp 0 (by decide)
    have q1 : vs 1 = _ := hp 1 (by decide)
    have q2 : vs 2 = _ := hp 2 (by decide)
    have q3 : vs 3 = _ := hp 3 (by decide)
    have q4 : vs 4 = _ := hp 4 (by decide)
    have q5 : vs 5 = _ := hp 5 (by decide)
    have q6 : vs 6 = _ := hp 6 (by decide)
    have q7 : vs 7 = _ := hp 7 (by decide)
    have q8 : vs 8 = _ := hp 8 (by decide)
    clear hp
    simp only [fill, Act.put, List.append_eq, List.cons_append, List.nil_append, List.take_succ_cons, List.take_zero, List.setIfInBounds_toArray, List.set_cons_succ, List.set_cons_zero, Nat.reduceAdd, Nat.zero_add, q0, q1, q2, q3, q4, q5, q6, q7, q8] at hb
    subst hb
    simp only [List.append_eq, List.cons_append, List.nil_append, List.drop_succ_cons, List.drop_zero]
    clear q0 q1 q2 q3 q4 q5 q6 q7 q8
    have z : W.cell? ⟨gm, 2 + rd, none⟩ = some (.int .u32 (σ rd)) := (blk_cell hG.1.2.2 (2 + rd)).trans (marr_get _ hrd'.out)
    have y := blk_frozen hG.1.2.2 (2 + rd)
    have hJ := Lib.hid hG
    clear hG
    generalize hvv : (IntKind.u32.wrap im) = vv
    go_wp2
    replace hJ := hJ.out
    have hG : (Below w.heap.size w (W.setCell ⟨gm, 2 + rd, none⟩ (.int .u32 vv)) ∧ (W.setCell ⟨gm, 2 + rd, none⟩ (.int .u32 vv)).heap[g1]? = some (.cells (arr fun _ => 0) 24 (0, 0)) ∧ (W.setCell ⟨gm, 2 + rd, none⟩ (.int .u32 vv)).heap[gm]? = some (.cells (marr (upd1 σ rd vv)) 36 (0, 0))) ∧ (W.setCell ⟨gm, 2 + rd, none⟩ (.int .u32 vv)).heap[gx]? = some (.cells #[.int .i64 42, .int .i64 (rd : Int), .int .i64 (rs1 : Int), .int .i64 (rs2 : Int), .int .i32 im] 38 (0, 0)) := ⟨⟨below_set hJ.1.1 (by omega), blk_far hJ.1.2.1 (by show _ ≠ gm; omega) _, blk_put hJ.1.2.2 (2 + rd) _ (marr_put σ hrd'.out _)⟩, blk_far hJ.2 (by show _ ≠ gm; omega) _⟩
    generalize W.setCell ⟨gm, 2 + rd, none⟩ (.int .u32 vv) = V at *
    clear hJ z y
    subst hvv
    refine HK10.out _ _ ?_
    clear HK10
    apply wp_seq_k
    intro K12 hK12
    have HK12 := Lib.hid hK12
    clear hK12
    apply wp_seq_k
    intro K13 hK13
    have HK13 := Lib.hid hK13
    clear hK13
    refine wp_listed (R := fun W W' => Below W.heap.size W W') 3 [.val (.pointer (some ⟨gx, 0, none⟩)), .val (.int .i64 42), .val (.bool false)] (fun W => (Below w.heap.size w W ∧ W.heap[g1]? = some (.cells (arr fun _ => 0) 24 (0, 0)) ∧ W.heap[gm]? = some (.cells (marr (upd1 σ rd (IntKind.u32.wrap im))) 36 (0, 0))) ∧ W.heap[gx]? = some (.cells #[.int .i64 42, .int .i64 (rd : Int), .int .i64 (rs1 : Int), .int .i64 (rs2 : Int), .int .i32 im] 38 (0, 0))) (by kernel_rfl) hG ?_ ?_
    · intro vs W hG b hb
      have e7 : b.eval (.tmp 7) = .pointer (some ⟨gx, 0, none⟩) := eo hb (by kernel_rfl)
      have i33 := ei (d := 33) hb 0 (by kernel_rfl) rfl rfl (by simp)
      have i34 := ei (d := 34) hb 1 (by kernel_rfl) rfl rfl (by simp)
      clear hb
      refine And.intro ?_ (And.intro ?_ (And.intro ?_ (trivial)))
      · intro hp K hK
        refine g_no rfl ?_
        exact st_field rfl (e7) (by kernel_rfl) (hK _ _ rfl hG (Below.refl _ _))
      · intro hp K hK
        refine g_no rfl ?_
        have e33 : b.eval (.tmp 33) = _ := i33.trans (hp 0 (by kernel_rfl))
        exact st_load rfl (e33) (ld_cell 3 (by kernel_rfl) ((blk_cell hG.2 0).trans rfl)) (hK _ _ rfl hG (Below.refl _ _))
      · intro hp K hK
        refine g_no rfl ?_
        have e34 : b.eval (.tmp 34) = _ := i34.trans (hp 1 (by kernel_rfl))
        exact st_bin rfl (e34) (eval_const _) b_eql (hK _ _ rfl hG (Below.refl _ _))
    intro vs W hG hp b hb
    have q2 : vs 2 = _ := hp 2 (by decide)
    clear hp
    simp only [fill, Act.put, List.append_eq, List.cons_append, List.nil_append, List.take_succ_cons, List.take_zero, List.setIfInBounds_toArray, List.set_cons_succ, List.set_cons_zero, Nat.reduceAdd, Nat.zero_add, q2] at hb
    subst hb
    refine wpList_nil ?_
    clear q2
    refine HK13.out _ _ ?_
    clear HK13
    apply wp_cond_false rfl
    apply wp_skip
    simp only [Exit.then]
    refine HK12.out _ _ ?_
    clear HK12
    apply wp_seq_k
    intro K14 hK14
    have HK14 := Lib.hid hK14
    clear hK14
    apply wp_seq_k
    intro K15 hK15
    have HK15 := Lib.hid hK15
    clear hK15
    refine wp_listed (R := fun W W' => Below W.heap.size W W') 3 [.val (.pointer (some ⟨gx, 0, none⟩)), .val (.int .i64 42), .val (.bool false)] (fun W => (Below w.heap.size w W ∧ W.heap[g1]? = some (.cells (arr fun _ => 0) 24 (0, 0)) ∧ W.heap[gm]? = some (.cells (marr (upd1 σ rd (IntKind.u32.wrap im))) 36 (0, 0))) ∧ W.heap[gx]? = some (.cells #[.int .i64 42, .int .i64 (rd : Int), .int .i64 (rs1 : Int), .int .i64 (rs2 : Int), .int .i32 im] 38 (0, 0))) (by kernel_rfl) hG ?_ ?_
    · intro vs W hG b hb
      have e7 : b.eval (.tmp 7) = .pointer (some ⟨gx, 0, none⟩) := eo hb (by kernel_rfl)
      have i53 := ei (d := 53) hb 0 (by kernel_rfl) rfl rfl (by simp)
      have i54 := ei (d := 54) hb 1 (by kernel_rfl) rfl rfl (by simp)
      clear hb
      refine And.intro ?_ (And.intro ?_ (And.intro ?_ (trivial)))
      · intro hp K hK
        refine g_no rfl ?_
        exact st_field rfl (e7) (by kernel_rfl) (hK _ _ rfl hG (Below.refl _ _))
      · intro hp K hK
        refine g_no rfl ?_
        have e53 : b.eval (.tmp 53) = _ := i53.trans (hp 0 (by kernel_rfl))
        exact st_load rfl (e53) (ld_cell 3 (by kernel_rfl) ((blk_cell hG.2 0).trans rfl)) (hK _ _ rfl hG (Below.refl _ _))
      · intro hp K hK
        refine g_no rfl ?_
        have e54 : b.eval (.tmp 54) = _ := i54.trans (hp 1 (by kernel_rfl))
        exact st_bin rfl (e54) (eval_const _) b_eql (hK _ _ rfl hG (Below.refl _ _))
    intro vs W hG hp b hb
    have q2 : vs 2 = _ := hp 2 (by decide)
    clear hp
    simp only [fill, Act.put, List.append_eq, List.cons_append, List.nil_append, List.take_succ_cons, List.take_zero, List.setIfInBounds_toArray, List.set_cons_succ, List.set_cons_zero, Nat.reduceAdd, Nat.zero_add, q2] at hb
    subst hb
    refine wpList_nil ?_
    clear q2
    refine HK15.out _ _ ?_
    clear HK15
    apply wp_cond_false rfl
    apply wp_skip
    simp only [Exit.then]
    refine HK14.out _ _ ?_
    clear HK14
    refine wp_listed (R := fun W W' => Below W.heap.size W W') 4 [.val (.pointer (some ⟨gm, 0, none⟩)), .val (.pointer (some ⟨gm, 0, none⟩)), .val (.pointer (some ⟨gm, 2, none⟩)), .val (.pointer (some ⟨gm, 2 + 0, none⟩))] (fun W => (Below w.heap.size w W ∧ W.heap[g1]? = some (.cells (arr fun _ => 0) 24 (0, 0)) ∧ W.heap[gm]? = some (.cells (marr (upd1 σ rd (IntKind.u32.wrap im))) 36 (0, 0))) ∧ W.heap[gx]? = some (.cells #[.int .i64 42, .int .i64 (rd : Int), .int .i64 (rs1 : Int), .int .i64 (rs2 : Int), .int .i32 im] 38 (0, 0))) (by kernel_rfl) hG ?_ ?_
    · intro vs W hG b hb
      have e5 : b.eval (.tmp 5) = .pointer (some ⟨gm, 0, none⟩) := eo hb (by kernel_rfl)
      have i77 := ei (d := 77) hb 0 (by kernel_rfl) rfl rfl (by simp)
      have i78 := ei (d := 78) hb 1 (by kernel_rfl) rfl rfl (by simp)
      have i79 := ei (d := 79) hb 2 (by kernel_rfl) rfl rfl (by simp)
      clear hb
      refine And.intro ?_ (And.intro ?_ (And.intro ?_ (And.intro ?_ (trivial))))
      · intro hp K hK
        refine g_no rfl ?_
        exact st_move (.inl rfl) (e5) (hK _ _ rfl hG (Below.refl _ _))
      · intro hp K hK
        refine g_no rfl ?_
        have e77 : b.eval (.tmp 77) = _ := i77.trans (hp 0 (by kernel_rfl))
        exact st_nilCheck rfl (e77) (hK _ _ rfl hG (Below.refl _ _))
      · intro hp K hK
        refine g_no rfl ?_
        have e78 : b.eval (.tmp 78) = _ := i78.trans (hp 1 (by kernel_rfl))
        exact st_field rfl (e78) (by kernel_rfl) (hK _ _ rfl hG (Below.refl _ _))
      · intro hp K hK
        refine g_no rfl ?_
        have e79 : b.eval (.tmp 79) = _ := i79.trans (hp 2 (by kernel_rfl))
        exact st_index rfl (e79) (eval_const _) (ixa _ _ 0 (by decide) _) (hK _ _ rfl hG (Below.refl _ _))
    intro vs W hG hp b hb
    have q0 : vs 0 = _ := hp 0 (by decide)
    have q1 : vs 1 = _ := hp 1 (by decide)
    have q2 : vs 2 = _ := hp 2 (by decide)
    have q3 : vs 3 = _ := hp 3 (by decide)
    clear hp
    simp only [fill, Act.put, List.append_eq, List.cons_append, List.nil_append, List.take_succ_cons, List.take_zero, List.setIfInBounds_toArray, List.set_cons_succ, List.set_cons_zero, Nat.reduceAdd, Nat.zero_add, q0, q1, q2, q3] at hb
    subst hb
    simp only [List.append_eq, List.cons_append, List.nil_append, List.drop_succ_cons, List.drop_zero]
    clear q0 q1 q2 q3
    have z : W.cell? ⟨gm, 2, none⟩ = some (.int .u32 ((upd1 σ rd (IntKind.u32.wrap im)) 0)) := (blk_cell hG.1.2.2 (2 + 0)).trans (marr_get _ (by decide))
    have y := blk_frozen hG.1.2.2 2
    have hJ := Lib.hid hG.1
    clear hG
    have hl : IntKind.i64.wrap ((i : Int) + 1) = (i : Int) + 1 := IntWalk.i64_in _ (by have := HL.out; have := hil.out; omega)
    go_wp2
    replace hJ := hJ.out
    refine HK8.out _ _ ?_
    clear HK8
    go_wp2
    refine ⟨loop_frame (by kernel_rfl), ⟨i + 1, by show Value.int .i64 _ = _; simp, hil.out, below_set hJ.1 (by omega), blk_far hJ.2.1 (by show _ ≠ gm; omega) _, ?_⟩, ?_⟩
    · rw [hst.out]
      exact blk_put hJ.2.2 (2 + 0) _ (marr_put _ (by decide) _)
    · exact Msr.lt (by have := hil.out; omega)
  · subst hop
    apply wp_seq_k
    intro K16 hK16
    have HK16 := Lib.hid hK16
    clear hK16
    apply wp_seq_k
    intro K17 hK17
    have HK17 := Lib.hid hK17
    clear hK17
    refine wp_listed (R := fun W W' => Below W.heap.size W W') 3 [.val (.pointer (some ⟨gx, 0, none⟩)), .val (.int .i64 19), .val (.bool false)] (fun W => (Below w.heap.size w W ∧ W.heap[g1]? = some (.cells (arr fun _ => 0) 24 (0, 0)) ∧ W.heap[gm]? = some (.cells (marr σ) 36 (0, 0))) ∧ W.heap[gx]? = some (.cells #[.int .i64 19, .int .i64 (rd : Int), .int .i64 (rs1 : Int), .int .i64 (rs2 : Int), .int .i32 im] 38 (0, 0))) (by kernel_rfl) hG ?_ ?_
    · intro vs W hG b hb
      have e7 : b.eval (.tmp 7) = .pointer (some ⟨gx, 0, none⟩) := eo hb (by kernel_rfl)
      have i21 := ei (d := 21) hb 0 (by kernel_rfl) rfl rfl (by simp)
      have i22 := ei (d := 22) hb 1 (by kernel_rfl) rfl rfl (by simp)
      clear hb
      refine And.intro ?_ (And.intro ?_ (And.intro ?_ (trivial)))
      · intro hp K hK
        refine g_no rfl ?_
        exact st_field rfl (e7) (by kernel_rfl) (hK _ _ rfl hG (Below.refl _ _))
      · intro hp K hK
        refine g_no rfl ?_
        have e21 : b.eval (.tmp 21) = _ := i21.trans (hp 0 (by kernel_rfl))
        exact st_load rfl (e21) (ld_cell 3 (by kernel_rfl) ((blk_cell hG.2 0).trans rfl)) (hK _ _ rfl hG (Below.refl _ _))
      · intro hp K hK
        refine g_no rfl ?_
        have e22 : b.eval (.tmp 22) = _ := i22.trans (hp 1 (by kernel_rfl))
        exact st_bin rfl (e22) (eval_const _) b_eql (hK _ _ rfl hG (Below.refl _ _))
    intro vs W hG hp b hb
    have q2 : vs 2 = _ := hp 2 (by decide)
    clear hp
    simp only [fill, Act.put, List.append_eq, List.cons_append, List.nil_append, List.take_succ_cons, List.take_zero, List.setIfInBounds_toArray, List.set_cons_succ, List.set_cons_zero, Nat.reduceAdd, Nat.zero_add, q2] at hb
    subst hb
    refine wpList_nil ?_
    clear q2
    refine HK17.out _ _ ?_
    clear HK17
    apply wp_cond_false rfl
    apply wp_skip
    simp only [Exit.then]
    refine HK16.out _ _ ?_
    clear HK16
    apply wp_seq_k
    intro K18 hK18
    have HK18 := Lib.hid hK18
    clear hK18
    apply wp_seq_k
    intro K19 hK19
    have HK19 := Lib.hid hK19
    clear hK19
    refine wp_listed (R := fun W W' => Below W.heap.size W W') 3 [.val (.pointer (some ⟨gx, 0, none⟩)), .val (.int .i64 19), .val (.bool true)] (fun W => (Below w.heap.size w W ∧ W.heap[g1]? = some (.cells (arr fun _ => 0) 24 (0, 0)) ∧ W.heap[gm]? = some (.cells (marr σ) 36 (0, 0))) ∧ W.heap[gx]? = some (.cells #[.int .i64 19, .int .i64 (rd : Int), .int .i64 (rs1 : Int), .int .i64 (rs2 : Int), .int .i32 im] 38 (0, 0))) (by kernel_rfl) hG ?_ ?_
    · intro vs W hG b hb
      have e7 : b.eval (.tmp 7) = .pointer (some ⟨gx, 0, none⟩) := eo hb (by kernel_rfl)
      have i33 := ei (d := 33) hb 0 (by kernel_rfl) rfl rfl (by simp)
      have i34 := ei (d := 34) hb 1 (by kernel_rfl) rfl rfl (by simp)
      clear hb
      refine And.intro ?_ (And.intro ?_ (And.intro ?_ (trivial)))
      · intro hp K hK
        refine g_no rfl ?_
        exact st_field rfl (e7) (by kernel_rfl) (hK _ _ rfl hG (Below.refl _ _))
      · intro hp K hK
        refine g_no rfl ?_
        have e33 : b.eval (.tmp 33) = _ := i33.trans (hp 0 (by kernel_rfl))
        exact st_load rfl (e33) (ld_cell 3 (by kernel_rfl) ((blk_cell hG.2 0).trans rfl)) (hK _ _ rfl hG (Below.refl _ _))
      · intro hp K hK
        refine g_no rfl ?_
        have e34 : b.eval (.tmp 34) = _ := i34.trans (hp 1 (by kernel_rfl))
        exact st_bin rfl (e34) (eval_const _) b_eql (hK _ _ rfl hG (Below.refl _ _))
    intro vs W hG hp b hb
    have q2 : vs 2 = _ := hp 2 (by decide)
    clear hp
    simp only [fill, Act.put, List.append_eq, List.cons_append, List.nil_append, List.take_succ_cons, List.take_zero, List.setIfInBounds_toArray, List.set_cons_succ, List.set_cons_zero, Nat.reduceAdd, Nat.zero_add, q2] at hb
    subst hb
    refine wpList_nil ?_
    clear q2
    refine HK19.out _ _ ?_
    clear HK19
    apply wp_cond_true rfl
    refine wp_drawn (R := fun W W' => Below W.heap.size W W') 17 [.val (.pointer (some ⟨gm, 0, none⟩)), .val (.pointer (some ⟨gx, 1, none⟩)), .val (.int .i64 (rd : Int)), .val (.pointer (some ⟨gm, 0, none⟩)), .val (.pointer (some ⟨gx, 2, none⟩)), .val (.int .i64 (rs1 : Int)), .val (.pointer (some ⟨gm, 0, none⟩)), .val (.pointer (some ⟨gm, 2, none⟩)), .val (.pointer (some ⟨gm, 2 + rs1, none⟩)), .val (.int .u32 (σ rs1)), .val (.pointer (some ⟨gx, 4, none⟩)), .val (.int .i32 im), .val (.int .u32 (IntKind.u32.wrap im)), .val (.int .u32 (IntKind.u32.wrap (σ rs1 + IntKind.u32.wrap im))), .val (.pointer (some ⟨gm, 0, none⟩)), .val (.pointer (some ⟨gm, 2, none⟩)), .val (.pointer (some ⟨gm, 2 + rd, none⟩))] (fun W => (Below w.heap.size w W ∧ W.heap[g1]? = some (.cells (arr fun _ => 0) 24 (0, 0)) ∧ W.heap[gm]? = some (.cells (marr σ) 36 (0, 0))) ∧ W.heap[gx]? = some (.cells #[.int .i64 19, .int .i64 (rd : Int), .int .i64 (rs1 : Int), .int .i64 (rs2 : Int), .int .i32 im] 38 (0, 0))) rfl (by kernel_rfl) ⟨⟨hG.1.1.drew, hG.1.2⟩, hG.2⟩ ?_ ?_
    · intro vs W hG b hb
      have e5 : b.eval (.tmp 5) = .pointer (some ⟨gm, 0, none⟩) := eo hb (by kernel_rfl)
      have e7 : b.eval (.tmp 7) = .pointer (some ⟨gx, 0, none⟩) := eo hb (by kernel_rfl)
      have i36 := ei (d := 36) hb 0 (by kernel_rfl) rfl rfl (by simp)
      have i37 := ei (d := 37) hb 1 (by kernel_rfl) rfl rfl (by simp)
      have i38 := ei (d := 38) hb 2 (by kernel_rfl) rfl rfl (by simp)
      have i39 := ei (d := 39) hb 3 (by kernel_rfl) rfl rfl (by simp)
      have i40 := ei (d := 40) hb 4 (by kernel_rfl) rfl rfl (by simp)
      have i41 := ei (d := 41) hb 5 (by kernel_rfl) rfl rfl (by simp)
      have i42 := ei (d := 42) hb 6 (by kernel_rfl) rfl rfl (by simp)
      have i43 := ei (d := 43) hb 7 (by kernel_rfl) rfl rfl (by simp)
      have i44 := ei (d := 44) hb 8 (by kernel_rfl) rfl rfl (by simp)
      have i45 := ei (d := 45) hb 9 (by kernel_rfl) rfl rfl (by simp)
      have i46 := ei (d := 46) hb 10 (by kernel_rfl) rfl rfl (by simp)
      have i47 := ei (d := 47) hb 11 (by kernel_rfl) rfl rfl (by simp)
      have i48 := ei (d := 48) hb 12 (by kernel_rfl) rfl rfl (by simp)
      have i50 := ei (d := 50) hb 14 (by kernel_rfl) rfl rfl (by simp)
      have i51 := ei (d := 51) hb 15 (by kernel_rfl) rfl rfl (by simp)
      clear hb
      refine And.intro ?_ (And.intro ?_ (And.intro ?_ (And.intro ?_ (And.intro ?_ (And.intro ?_ (And.intro ?_ (And.intro ?_ (And.intro ?_ (And.intro ?_ (And.intro ?_ (And.intro ?_ (And.intro ?_ (And.intro ?_ (And.intro ?_ (And.intro ?_ (And.intro ?_ (trivial)))))))))))))))))
      · intro hp K hK
        refine g_no rfl ?_
        exact st_move (.inl rfl) (e5) (hK _ _ rfl hG (Below.refl _ _))
      · intro hp K hK
        refine g_no rfl ?_
        exact st_field rfl (e7) (by kernel_rfl) (hK _ _ rfl hG (Below.refl _ _))
      · intro hp K hK
        refine g_no rfl ?_
        have e37 : b.eval (.tmp 37) = _ := i37.trans (hp 1 (by kernel_rfl))
        exact st_load rfl (e37) (ld_cell 3 (by kernel_rfl) ((blk_cell hG.2 1).trans rfl)) (hK _ _ rfl hG (Below.refl _ _))
      · intro hp K hK
        refine g_no rfl ?_
        exact st_move (.inl rfl) (e5) (hK _ _ rfl hG (Below.refl _ _))
      · intro hp K hK
        refine g_no rfl ?_
        exact st_field rfl (e7) (by kernel_rfl) (hK _ _ rfl hG (Below.refl _ _))
      · intro hp K hK
        refine g_no rfl ?_
        have e40 : b.eval (.tmp 40) = _ := i40.trans (hp 4 (by kernel_rfl))
        exact st_load rfl (e40) (ld_cell 3 (by kernel_rfl) ((blk_cell hG.2 2).trans rfl)) (hK _ _ rfl hG (Below.refl _ _))
      · intro hp K hK
        refine g_no rfl ?_
        have e39 : b.eval (.tmp 39) = _ := i39.trans (hp 3 (by kernel_rfl))
        exact st_nilCheck rfl (e39) (hK _ _ rfl hG (Below.refl _ _))
      · intro hp K hK
        refine g_no rfl ?_
        have e42 : b.eval (.tmp 42) = _ := i42.trans (hp 6 (by kernel_rfl))
        exact st_field rfl (e42) (by kernel_rfl) (hK _ _ rfl hG (Below.refl _ _))
      · intro hp K hK
        refine g_no rfl ?_
        have e41 : b.eval (.tmp 41) = _ := i41.trans (hp 5 (by kernel_rfl))
        have e43 : b.eval (.tmp 43) = _ := i43.trans (hp 7 (by kernel_rfl))
        exact st_index rfl (e43) (e41) (ixa _ _ _ hr1'.out _) (hK _ _ rfl hG (Below.refl _ _))
      · intro hp K hK
        refine g_no rfl ?_
        have e44 : b.eval (.tmp 44) = _ := i44.trans (hp 8 (by kernel_rfl))
        exact st_load rfl (e44) (ld_cell 22 (by kernel_rfl) ((blk_cell hG.1.2.2 (2 + rs1)).trans (marr_get _ hr1'.out))) (hK _ _ rfl hG (Below.refl _ _))
      · intro hp K hK
        refine g_no rfl ?_
        exact st_field rfl (e7) (by kernel_rfl) (hK _ _ rfl hG (Below.refl _ _))
      · intro hp K hK
        refine g_no rfl ?_
        have e46 : b.eval (.tmp 46) = _ := i46.trans (hp 10 (by kernel_rfl))
        exact st_load rfl (e46) (ld_cell 21 (by kernel_rfl) ((blk_cell hG.2 4).trans rfl)) (hK _ _ rfl hG (Below.refl _ _))
      · intro hp K hK
        refine g_no rfl ?_
        have e47 : b.eval (.tmp 47) = _ := i47.trans (hp 11 (by kernel_rfl))
        exact st_conv rfl (e47) (cv _ _) (hK _ _ rfl hG (Below.refl _ _))
      · intro hp K hK
        refine g_no rfl ?_
        have e45 : b.eval (.tmp 45) = _ := i45.trans (hp 9 (by kernel_rfl))
        have e48 : b.eval (.tmp 48) = _ := i48.trans (hp 12 (by kernel_rfl))
        exact st_bin rfl (e45) (e48) (b_add rfl) (hK _ _ rfl hG (Below.refl _ _))
      · intro hp K hK
        refine g_no rfl ?_
        have e36 : b.eval (.tmp 36) = _ := i36.trans (hp 0 (by kernel_rfl))
        exact st_nilCheck rfl (e36) (hK _ _ rfl hG (Below.refl _ _))
      · intro hp K hK
        refine g_no rfl ?_
        have e50 : b.eval (.tmp 50) = _ := i50.trans (hp 14 (by kernel_rfl))
        exact st_field rfl (e50) (by kernel_rfl) (hK _ _ rfl hG (Below.refl _ _))
      · intro hp K hK
        refine g_no rfl ?_
        have e38 : b.eval (.tmp 38) = _ := i38.trans (hp 2 (by kernel_rfl))
        have e51 : b.eval (.tmp 51) = _ := i51.trans (hp 15 (by kernel_rfl))
        exact st_index rfl (e51) (e38) (ixa _ _ _ hrd'.out _) (hK _ _ rfl hG (Below.refl _ _))
    intro vs W hG hp b hb
    have q0 : vs 0 = _ := hp 0 (by decide)
    have q1 : vs 1 = _ := hp 1 (by decide)
    have q2 : vs 2 = _ := hp 2 (by decide)
    have q3 : vs 3 = _ := hp 3 (by decide)
    have q4 : vs 4 = _ := hp 4 (by decide)
    have q5 : vs 5 = _ := hp 5 (by decide)
    have q6 : vs 6 = _ := hp 6 (by decide)
    have q7 : vs 7 = _ := hp 7 (by decide)
    have q8 : vs 8 = _ := hp 8 (by decide)
    have q9 : vs 9 = _ := hp 9 (by decide)
    have q10 : vs 10 = _ := hp 10 (by decide)
    have q11 : vs 11 = _ := hp 11 (by decide)
    have q12 : vs 12 = _ := hp 12 (by decide)
    have q13 : vs 13 = _ := hp 13 (by decide)
    have q14 : vs 14 = _ := hp 14 (by decide)
    have q15 : vs 15 = _ := hp 15 (by decide)
    have q16 : vs 16 = _ := hp 16 (by decide)
    clear hp
    simp only [fill, Act.put, List.append_eq, List.cons_append, List.nil_append, List.take_succ_cons, List.take_zero, List.setIfInBounds_toArray, List.set_cons_succ, List.set_cons_zero, Nat.reduceAdd, Nat.zero_add, q0, q1, q2, q3, q4, q5, q6, q7, q8, q9, q10, q11, q12, q13, q14, q15, q16] at hb
    subst hb
    simp only [List.append_eq, List.cons_append, List.nil_append, List.drop_succ_cons, List.drop_zero]
    clear q0 q1 q2 q3 q4 q5 q6 q7 q8 q9 q10 q11 q12 q13 q14 q15 q16
    have z : W.cell? ⟨gm, 2 + rd, none⟩ = some (.int .u32 (σ rd)) := (blk_cell hG.1.2.2 (2 + rd)).trans (marr_get _ hrd'.out)
    have y := blk_frozen hG.1.2.2 (2 + rd)
    have hJ := Lib.hid hG
    clear hG
    generalize hvv : (IntKind.u32.wrap (σ rs1 + IntKind.u32.wrap im)) = vv
    go_wp2
    replace hJ := hJ.out
    have hG : (Below w.heap.size w (W.setCell ⟨gm, 2 + rd, none⟩ (.int .u32 vv)) ∧ (W.setCell ⟨gm, 2 + rd, none⟩ (.int .u32 vv)).heap[g1]? = some (.cells (arr fun _ => 0) 24 (0, 0)) ∧ (W.setCell ⟨gm, 2 + rd, none⟩ (.int .u32 vv)).heap[gm]? = some (.cells (marr (upd1 σ rd vv)) 36 (0, 0))) ∧ (W.setCell ⟨gm, 2 + rd, none⟩ (.int .u32 vv)).heap[gx]? = some (.cells #[.int .i64 19, .int .i64 (rd : Int), .int .i64 (rs1 : Int), .int .i64 (rs2 : Int), .int .i32 im] 38 (0, 0)) := ⟨⟨below_set hJ.1.1 (by omega), blk_far hJ.1.2.1 (by show _ ≠ gm; omega) _, blk_put hJ.1.2.2 (2 + rd) _ (marr_put σ hrd'.out _)⟩, blk_far hJ.2 (by show _ ≠ gm; omega) _⟩
    generalize W.setCell ⟨gm, 2 + rd, none⟩ (.int .u32 vv) = V at *
    clear hJ z y
    subst hvv
    refine HK18.out _ _ ?_
    clear HK18
    apply wp_seq_k
    intro K20 hK20
    have HK20 := Lib.hid hK20
    clear hK20
    apply wp_seq_k
    intro K21 hK21
    have HK21 := Lib.hid hK21
    clear hK21
    refine wp_listed (R := fun W W' => Below W.heap.size W W') 3 [.val (.pointer (some ⟨gx, 0, none⟩)), .val (.int .i64 19), .val (.bool false)] (fun W => (Below w.heap.size w W ∧ W.heap[g1]? = some (.cells (arr fun _ => 0) 24 (0, 0)) ∧ W.heap[gm]? = some (.cells (marr (upd1 σ rd (IntKind.u32.wrap (σ rs1 + IntKind.u32.wrap im)))) 36 (0, 0))) ∧ W.heap[gx]? = some (.cells #[.int .i64 19, .int .i64 (rd : Int), .int .i64 (rs1 : Int), .int .i64 (rs2 : Int), .int .i32 im] 38 (0, 0))) (by kernel_rfl) hG ?_ ?_
    · intro vs W hG b hb
      have e7 : b.eval (.tmp 7) = .pointer (some ⟨gx, 0, none⟩) := eo hb (by kernel_rfl)
      have i53 := ei (d := 53) hb 0 (by kernel_rfl) rfl rfl (by simp)
      have i54 := ei (d := 54) hb 1 (by kernel_rfl) rfl rfl (by simp)
      clear hb
      refine And.intro ?_ (And.intro ?_ (And.intro ?_ (trivial)))
      · intro hp K hK
        refine g_no rfl ?_
        exact st_field rfl (e7) (by kernel_rfl) (hK _ _ rfl hG (Below.refl _ _))
      · intro hp K hK
        refine g_no rfl ?_
        have e53 : b.eval (.tmp 53) = _ := i53.trans (hp 0 (by kernel_rfl))
        exact st_load rfl (e53) (ld_cell 3 (by kernel_rfl) ((blk_cell hG.2 0).trans rfl)) (hK _ _ rfl hG (Below.refl _ _))
      · intro hp K hK
        refine g_no rfl ?_
        have e54 : b.eval (.tmp 54) = _ := i54.trans (hp 1 (by kernel_rfl))
        exact st_bin rfl (e54) (eval_const _) b_eql (hK _ _ rfl hG (Below.refl _ _))
    intro vs W hG hp b hb
    have q2 : vs 2 = _ := hp 2 (by decide)
    clear hp
    simp only [fill, Act.put, List.append_eq, List.cons_append, List.nil_append, List.take_succ_cons, List.take_zero, List.setIfInBounds_toArray, List.set_cons_succ, List.set_cons_zero, Nat.reduceAdd, Nat.zero_add, q2] at hb
    subst hb
    refine wpList_nil ?_
    clear q2
    refine HK21.out _ _ ?_
    clear HK21
    apply wp_cond_false rfl
    apply wp_skip
    simp only [Exit.then]
    refine HK20.out _ _ ?_
    clear HK20
    refine wp_listed (R := fun W W' => Below W.heap.size W W') 4 [.val (.pointer (some ⟨gm, 0, none⟩)), .val (.pointer (some ⟨gm, 0, none⟩)), .val (.pointer (some ⟨gm, 2, none⟩)), .val (.pointer (some ⟨gm, 2 + 0, none⟩))] (fun W => (Below w.heap.size w W ∧ W.heap[g1]? = some (.cells (arr fun _ => 0) 24 (0, 0)) ∧ W.heap[gm]? = some (.cells (marr (upd1 σ rd (IntKind.u32.wrap (σ rs1 + IntKind.u32.wrap im)))) 36 (0, 0))) ∧ W.heap[gx]? = some (.cells #[.int .i64 19, .int .i64 (rd : Int), .int .i64 (rs1 : Int), .int .i64 (rs2 : Int), .int .i32 im] 38 (0, 0))) (by kernel_rfl) hG ?_ ?_
    · intro vs W hG b hb
      have e5 : b.eval (.tmp 5) = .pointer (some ⟨gm, 0, none⟩) := eo hb (by kernel_rfl)
      have i77 := ei (d := 77) hb 0 (by kernel_rfl) rfl rfl (by simp)
      have i78 := ei (d := 78) hb 1 (by kernel_rfl) rfl rfl (by simp)
      have i79 := ei (d := 79) hb 2 (by kernel_rfl) rfl rfl (by simp)
      clear hb
      refine And.intro ?_ (And.intro ?_ (And.intro ?_ (And.intro ?_ (trivial))))
      · intro hp K hK
        refine g_no rfl ?_
        exact st_move (.inl rfl) (e5) (hK _ _ rfl hG (Below.refl _ _))
      · intro hp K hK
        refine g_no rfl ?_
        have e77 : b.eval (.tmp 77) = _ := i77.trans (hp 0 (by kernel_rfl))
        exact st_nilCheck rfl (e77) (hK _ _ rfl hG (Below.refl _ _))
      · intro hp K hK
        refine g_no rfl ?_
        have e78 : b.eval (.tmp 78) = _ := i78.trans (hp 1 (by kernel_rfl))
        exact st_field rfl (e78) (by kernel_rfl) (hK _ _ rfl hG (Below.refl _ _))
      · intro hp K hK
        refine g_no rfl ?_
        have e79 : b.eval (.tmp 79) = _ := i79.trans (hp 2 (by kernel_rfl))
        exact st_index rfl (e79) (eval_const _) (ixa _ _ 0 (by decide) _) (hK _ _ rfl hG (Below.refl _ _))
    intro vs W hG hp b hb
    have q0 : vs 0 = _ := hp 0 (by decide)
    have q1 : vs 1 = _ := hp 1 (by decide)
    have q2 : vs 2 = _ := hp 2 (by decide)
    have q3 : vs 3 = _ := hp 3 (by decide)
    clear hp
    simp only [fill, Act.put, List.append_eq, List.cons_append, List.nil_append, List.take_succ_cons, List.take_zero, List.setIfInBounds_toArray, List.set_cons_succ, List.set_cons_zero, Nat.reduceAdd, Nat.zero_add, q0, q1, q2, q3] at hb
    subst hb
    simp only [List.append_eq, List.cons_append, List.nil_append, List.drop_succ_cons, List.drop_zero]
    clear q0 q1 q2 q3
    have z : W.cell? ⟨gm, 2, none⟩ = some (.int .u32 ((upd1 σ rd (IntKind.u32.wrap (σ rs1 + IntKind.u32.wrap im))) 0)) := (blk_cell hG.1.2.2 (2 + 0)).trans (marr_get _ (by decide))
    have y := blk_frozen hG.1.2.2 2
    have hJ := Lib.hid hG.1
    clear hG
    have hl : IntKind.i64.wrap ((i : Int) + 1) = (i : Int) + 1 := IntWalk.i64_in _ (by have := HL.out; have := hil.out; omega)
    go_wp2
    replace hJ := hJ.out
    refine HK8.out _ _ ?_
    clear HK8
    go_wp2
    refine ⟨loop_frame (by kernel_rfl), ⟨i + 1, by show Value.int .i64 _ = _; simp, hil.out, below_set hJ.1 (by omega), blk_far hJ.2.1 (by show _ ≠ gm; omega) _, ?_⟩, ?_⟩
    · rw [hst.out]
      exact blk_put hJ.2.2 (2 + 0) _ (marr_put _ (by decide) _)
    · exact Msr.lt (by have := hil.out; omega)
  · subst hop
    apply wp_seq_k
    intro K22 hK22
    have HK22 := Lib.hid hK22
    clear hK22
    apply wp_seq_k
    intro K23 hK23
    have HK23 := Lib.hid hK23
    clear hK23
    refine wp_listed (R := fun W W' => Below W.heap.size W W') 3 [.val (.pointer (some ⟨gx, 0, none⟩)), .val (.int .i64 1), .val (.bool false)] (fun W => (Below w.heap.size w W ∧ W.heap[g1]? = some (.cells (arr fun _ => 0) 24 (0, 0)) ∧ W.heap[gm]? = some (.cells (marr σ) 36 (0, 0))) ∧ W.heap[gx]? = some (.cells #[.int .i64 1, .int .i64 (rd : Int), .int .i64 (rs1 : Int), .int .i64 (rs2 : Int), .int .i32 im] 38 (0, 0))) (by kernel_rfl) hG ?_ ?_
    · intro vs W hG b hb
      have e7 : b.eval (.tmp 7) = .pointer (some ⟨gx, 0, none⟩) := eo hb (by kernel_rfl)
      have i21 := ei (d := 21) hb 0 (by kernel_rfl) rfl rfl (by simp)
      have i22 := ei (d := 22) hb 1 (by kernel_rfl) rfl rfl (by simp)
      clear hb
      refine And.intro ?_ (And.intro ?_ (And.intro ?_ (trivial)))
      · intro hp K hK
        refine g_no rfl ?_
        exact st_field rfl (e7) (by kernel_rfl) (hK _ _ rfl hG (Below.refl _ _))
      · intro hp K hK
        refine g_no rfl ?_
        have e21 : b.eval (.tmp 21) = _ := i21.trans (hp 0 (by kernel_rfl))
        exact st_load rfl (e21) (ld_cell 3 (by kernel_rfl) ((blk_cell hG.2 0).trans rfl)) (hK _ _ rfl hG (Below.refl _ _))
      · intro hp K hK
        refine g_no rfl ?_
        have e22 : b.eval (.tmp 22) = _ := i22.trans (hp 1 (by kernel_rfl))
        exact st_bin rfl (e22) (eval_const _) b_eql (hK _ _ rfl hG (Below.refl _ _))
    intro vs W hG hp b hb
    have q2 : vs 2 = _ := hp 2 (by decide)
    clear hp
    simp only [fill, Act.put, List.append_eq, List.cons_append, List.nil_append, List.take_succ_cons, List.take_zero, List.setIfInBounds_toArray, List.set_cons_succ, List.set_cons_zero, Nat.reduceAdd, Nat.zero_add, q2] at hb
    subst hb
    refine wpList_nil ?_
    clear q2
    refine HK23.out _ _ ?_
    clear HK23
    apply wp_cond_false rfl
    apply wp_skip
    simp only [Exit.then]
    refine HK22.out _ _ ?_
    clear HK22
    apply wp_seq_k
    intro K24 hK24
    have HK24 := Lib.hid hK24
    clear hK24
    apply wp_seq_k
    intro K25 hK25
    have HK25 := Lib.hid hK25
    clear hK25
    refine wp_listed (R := fun W W' => Below W.heap.size W W') 3 [.val (.pointer (some ⟨gx, 0, none⟩)), .val (.int .i64 1), .val (.bool false)] (fun W => (Below w.heap.size w W ∧ W.heap[g1]? = some (.cells (arr fun _ => 0) 24 (0, 0)) ∧ W.heap[gm]? = some (.cells (marr σ) 36 (0, 0))) ∧ W.heap[gx]? = some (.cells #[.int .i64 1, .int .i64 (rd : Int), .int .i64 (rs1 : Int), .int .i64 (rs2 : Int), .int .i32 im] 38 (0, 0))) (by kernel_rfl) hG ?_ ?_
    · intro vs W hG b hb
      have e7 : b.eval (.tmp 7) = .pointer (some ⟨gx, 0, none⟩) := eo hb (by kernel_rfl)
      have i33 := ei (d := 33) hb 0 (by kernel_rfl) rfl rfl (by simp)
      have i34 := ei (d := 34) hb 1 (by kernel_rfl) rfl rfl (by simp)
      clear hb
      refine And.intro ?_ (And.intro ?_ (And.intro ?_ (trivial)))
      · intro hp K hK
        refine g_no rfl ?_
        exact st_field rfl (e7) (by kernel_rfl) (hK _ _ rfl hG (Below.refl _ _))
      · intro hp K hK
        refine g_no rfl ?_
        have e33 : b.eval (.tmp 33) = _ := i33.trans (hp 0 (by kernel_rfl))
        exact st_load rfl (e33) (ld_cell 3 (by kernel_rfl) ((blk_cell hG.2 0).trans rfl)) (hK _ _ rfl hG (Below.refl _ _))
      · intro hp K hK
        refine g_no rfl ?_
        have e34 : b.eval (.tmp 34) = _ := i34.trans (hp 1 (by kernel_rfl))
        exact st_bin rfl (e34) (eval_const _) b_eql (hK _ _ rfl hG (Below.refl _ _))
    intro vs W hG hp b hb
    have q2 : vs 2 = _ := hp 2 (by decide)
    clear hp
    simp only [fill, Act.put, List.append_eq, List.cons_append, List.nil_append, List.take_succ_cons, List.take_zero, List.setIfInBounds_toArray, List.set_cons_succ, List.set_cons_zero, Nat.reduceAdd, Nat.zero_add, q2] at hb
    subst hb
    refine wpList_nil ?_
    clear q2
    refine HK25.out _ _ ?_
    clear HK25
    apply wp_cond_false rfl
    apply wp_skip
    simp only [Exit.then]
    refine HK24.out _ _ ?_
    clear HK24
    apply wp_seq_k
    intro K26 hK26
    have HK26 := Lib.hid hK26
    clear hK26
    apply wp_seq_k
    intro K27 hK27
    have HK27 := Lib.hid hK27
    clear hK27
    refine wp_listed (R := fun W W' => Below W.heap.size W W') 3 [.val (.pointer (some ⟨gx, 0, none⟩)), .val (.int .i64 1), .val (.bool true)] (fun W => (Below w.heap.size w W ∧ W.heap[g1]? = some (.cells (arr fun _ => 0) 24 (0, 0)) ∧ W.heap[gm]? = some (.cells (marr σ) 36 (0, 0))) ∧ W.heap[gx]? = some (.cells #[.int .i64 1, .int .i64 (rd : Int), .int .i64 (rs1 : Int), .int .i64 (rs2 : Int), .int .i32 im] 38 (0, 0))) (by kernel_rfl) hG ?_ ?_
    · intro vs W hG b hb
      have e7 : b.eval (.tmp 7) = .pointer (some ⟨gx, 0, none⟩) := eo hb (by kernel_rfl)
      have i53 := ei (d := 53) hb 0 (by kernel_rfl) rfl rfl (by simp)
      have i54 := ei (d := 54) hb 1 (by kernel_rfl) rfl rfl (by simp)
      clear hb
      refine And.intro ?_ (And.intro ?_ (And.intro ?_ (trivial)))
      · intro hp K hK
        refine g_no rfl ?_
        exact st_field rfl (e7) (by kernel_rfl) (hK _ _ rfl hG (Below.refl _ _))
      · intro hp K hK
        refine g_no rfl ?_
        have e53 : b.eval (.tmp 53) = _ := i53.trans (hp 0 (by kernel_rfl))
        exact st_load rfl (e53) (ld_cell 3 (by kernel_rfl) ((blk_cell hG.2 0).trans rfl)) (hK _ _ rfl hG (Below.refl _ _))
      · intro hp K hK
        refine g_no rfl ?_
        have e54 : b.eval (.tmp 54) = _ := i54.trans (hp 1 (by kernel_rfl))
        exact st_bin rfl (e54) (eval_const _) b_eql (hK _ _ rfl hG (Below.refl _ _))
    intro vs W hG hp b hb
    have q2 : vs 2 = _ := hp 2 (by decide)
    clear hp
    simp only [fill, Act.put, List.append_eq, List.cons_append, List.nil_append, List.take_succ_cons, List.take_zero, List.setIfInBounds_toArray, List.set_cons_succ, List.set_cons_zero, Nat.reduceAdd, Nat.zero_add, q2] at hb
    subst hb
    refine wpList_nil ?_
    clear q2
    refine HK27.out _ _ ?_
    clear HK27
    apply wp_cond_true rfl
    refine wp_drawn (R := fun W W' => Below W.heap.size W W') 21 [.val (.pointer (some ⟨gm, 0, none⟩)), .val (.pointer (some ⟨gx, 1, none⟩)), .val (.int .i64 (rd : Int)), .val (.pointer (some ⟨gm, 0, none⟩)), .val (.pointer (some ⟨gx, 2, none⟩)), .val (.int .i64 (rs1 : Int)), .val (.pointer (some ⟨gm, 0, none⟩)), .val (.pointer (some ⟨gm, 2, none⟩)), .val (.pointer (some ⟨gm, 2 + rs1, none⟩)), .val (.int .u32 (σ rs1)), .val (.pointer (some ⟨gm, 0, none⟩)), .val (.pointer (some ⟨gx, 3, none⟩)), .val (.int .i64 (rs2 : Int)), .val (.pointer (some ⟨gm, 0, none⟩)), .val (.pointer (some ⟨gm, 2, none⟩)), .val (.pointer (some ⟨gm, 2 + rs2, none⟩)), .val (.int .u32 (σ rs2)), .val (.int .u32 (IntKind.u32.wrap (σ rs1 + σ rs2))), .val (.pointer (some ⟨gm, 0, none⟩)), .val (.pointer (some ⟨gm, 2, none⟩)), .val (.pointer (some ⟨gm, 2 + rd, none⟩))] (fun W => (Below w.heap.size w W ∧ W.heap[g1]? = some (.cells (arr fun _ => 0) 24 (0, 0)) ∧ W.heap[gm]? = some (.cells (marr σ) 36 (0, 0))) ∧ W.heap[gx]? = some (.cells #[.int .i64 1, .int .i64 (rd : Int), .int .i64 (rs1 : Int), .int .i64 (rs2 : Int), .int .i32 im] 38 (0, 0))) rfl (by kernel_rfl) ⟨⟨hG.1.1.drew, hG.1.2⟩, hG.2⟩ ?_ ?_
    · intro vs W hG b hb
      have e5 : b.eval (.tmp 5) = .pointer (some ⟨gm, 0, none⟩) := eo hb (by kernel_rfl)
      have e7 : b.eval (.tmp 7) = .pointer (some ⟨gx, 0, none⟩) := eo hb (by kernel_rfl)
      have i56 := ei (d := 56) hb 0 (by kernel_rfl) rfl rfl (by simp)
      have i57 := ei (d := 57) hb 1 (by kernel_rfl) rfl rfl (by simp)
      have i58 := ei (d := 58) hb 2 (by kernel_rfl) rfl rfl (by simp)
      have i59 := ei (d := 59) hb 3 (by kernel_rfl) rfl rfl (by simp)
      have i60 := ei (d := 60) hb 4 (by kernel_rfl) rfl rfl (by simp)
      have i61 := ei (d := 61) hb 5 (by kernel_rfl) rfl rfl (by simp)
      have i62 := ei (d := 62) hb 6 (by kernel_rfl) rfl rfl (by simp)
      have i63 := ei (d := 63) hb 7 (by kernel_rfl) rfl rfl (by simp)
      have i64 := ei (d := 64) hb 8 (by kernel_rfl) rfl rfl (by simp)
      have i65 := ei (d := 65) hb 9 (by kernel_rfl) rfl rfl (by simp)
      have i66 := ei (d := 66) hb 10 (by kernel_rfl) rfl rfl (by simp)
      have i67 := ei (d := 67) hb 11 (by kernel_rfl) rfl rfl (by simp)
      have i68 := ei (d := 68) hb 12 (by kernel_rfl) rfl rfl (by simp)
      have i69 := ei (d := 69) hb 13 (by kernel_rfl) rfl rfl (by simp)
      have i70 := ei (d := 70) hb 14 (by kernel_rfl) rfl rfl (by simp)
      have i71 := ei (d := 71) hb 15 (by kernel_rfl) rfl rfl (by simp)
      have i72 := ei (d := 72) hb 16 (by kernel_rfl) rfl rfl (by simp)
      have i74 := ei (d := 74) hb 18 (by kernel_rfl) rfl rfl (by simp)
      have i75 := ei (d := 75) hb 19 (by kernel_rfl) rfl rfl (by simp)
      clear hb
      refine And.intro ?_ (And.intro ?_ (And.intro ?_ (And.intro ?_ (And.intro ?_ (And.intro ?_ (And.intro ?_ (And.intro ?_ (And.intro ?_ (And.intro ?_ (And.intro ?_ (And.intro ?_ (And.intro ?_ (And.intro ?_ (And.intro ?_ (And.intro ?_ (And.intro ?_ (And.intro ?_ (And.intro ?_ (And.intro ?_ (And.intro ?_ (trivial)))))))))))))))))))))
      · intro hp K hK
        refine g_no rfl ?_
        exact st_move (.inl rfl) (e5) (hK _ _ rfl hG (Below.refl _ _))
      · intro hp K hK
        refine g_no rfl ?_
        exact st_field rfl (e7) (by kernel_rfl) (hK _ _ rfl hG (Below.refl _ _))
      · intro hp K hK
        refine g_no rfl ?_
        have e57 : b.eval (.tmp 57) = _ := i57.trans (hp 1 (by kernel_rfl))
        exact st_load rfl (e57) (ld_cell 3 (by kernel_rfl) ((blk_cell hG.2 1).trans rfl)) (hK _ _ rfl hG (Below.refl _ _))
      · intro hp K hK
        refine g_no rfl ?_
        exact st_move (.inl rfl) (e5) (hK _ _ rfl hG (Below.refl _ _))
      · intro hp K hK
        refine g_no rfl ?_
        exact st_field rfl (e7) (by kernel_rfl) (hK _ _ rfl hG (Below.refl _ _))
      · intro hp K hK
        refine g_no rfl ?_
        have e60 : b.eval (.tmp 60) = _ := i60.trans (hp 4 (by kernel_rfl))
        exact st_load rfl (e60) (ld_cell 3 (by kernel_rfl) ((blk_cell hG.2 2).trans rfl)) (hK _ _ rfl hG (Below.refl _ _))
      · intro hp K hK
        refine g_no rfl ?_
        have e59 : b.eval (.tmp 59) = _ := i59.trans (hp 3 (by kernel_rfl))
        exact st_nilCheck rfl (e59) (hK _ _ rfl hG (Below.refl _ _))
      · intro hp K hK
        refine g_no rfl ?_
        have e62 : b.eval (.tmp 62) = _ := i62.trans (hp 6 (by kernel_rfl))
        exact st_field rfl (e62) (by kernel_rfl) (hK _ _ rfl hG (Below.refl _ _))
      · intro hp K hK
        refine g_no rfl ?_
        have e61 : b.eval (.tmp 61) = _ := i61.trans (hp 5 (by kernel_rfl))
        have e63 : b.eval (.tmp 63) = _ := i63.trans (hp 7 (by kernel_rfl))
        exact st_index rfl (e63) (e61) (ixa _ _ _ hr1'.out _) (hK _ _ rfl hG (Below.refl _ _))
      · intro hp K hK
        refine g_no rfl ?_
        have e64 : b.eval (.tmp 64) = _ := i64.trans (hp 8 (by kernel_rfl))
        exact st_load rfl (e64) (ld_cell 22 (by kernel_rfl) ((blk_cell hG.1.2.2 (2 + rs1)).trans (marr_get _ hr1'.out))) (hK _ _ rfl hG (Below.refl _ _))
      · intro hp K hK
        refine g_no rfl ?_
        exact st_move (.inl rfl) (e5) (hK _ _ rfl hG (Below.refl _ _))
      · intro hp K hK
        refine g_no rfl ?_
        exact st_field rfl (e7) (by kernel_rfl) (hK _ _ rfl hG (Below.refl _ _))
      · intro hp K hK
        refine g_no rfl ?_
        have e67 : b.eval (.tmp 67) = _ := i67.trans (hp 11 (by kernel_rfl))
        exact st_load rfl (e67) (ld_cell 3 (by kernel_rfl) ((blk_cell hG.2 3).trans rfl)) (hK _ _ rfl hG (Below.refl _ _))
      · intro hp K hK
        refine g_no rfl ?_
        have e66 : b.eval (.tmp 66) = _ := i66.trans (hp 10 (by kernel_rfl))
        exact st_nilCheck rfl (e66) (hK _ _ rfl hG (Below.refl _ _))
      · intro hp K hK
        refine g_no rfl ?_
        have e69 : b.eval (.tmp 69) = _ := i69.trans (hp 13 (by kernel_rfl))
        exact st_field rfl (e69) (by kernel_rfl) (hK _ _ rfl hG (Below.refl _ _))
      · intro hp K hK
        refine g_no rfl ?_
        have e68 : b.eval (.tmp 68) = _ := i68.trans (hp 12 (by kernel_rfl))
        have e70 : b.eval (.tmp 70) = _ := i70.trans (hp 14 (by kernel_rfl))
        exact st_index rfl (e70) (e68) (ixa _ _ _ hr2'.out _) (hK _ _ rfl hG (Below.refl _ _))
      · intro hp K hK
        refine g_no rfl ?_
        have e71 : b.eval (.tmp 71) = _ := i71.trans (hp 15 (by kernel_rfl))
        exact st_load rfl (e71) (ld_cell 22 (by kernel_rfl) ((blk_cell hG.1.2.2 (2 + rs2)).trans (marr_get _ hr2'.out))) (hK _ _ rfl hG (Below.refl _ _))
      · intro hp K hK
        refine g_no rfl ?_
        have e65 : b.eval (.tmp 65) = _ := i65.trans (hp 9 (by kernel_rfl))
        have e72 : b.eval (.tmp 72) = _ := i72.trans (hp 16 (by kernel_rfl))
        exact st_bin rfl (e65) (e72) (b_add rfl) (hK _ _ rfl hG (Below.refl _ _))
      · intro hp K hK
        refine g_no rfl ?_
        have e56 : b.eval (.tmp 56) = _ := i56.trans (hp 0 (by kernel_rfl))
        exact st_nilCheck rfl (e56) (hK _ _ rfl hG (Below.refl _ _))
      · intro hp K hK
        refine g_no rfl ?_
        have e74 : b.eval (.tmp 74) = _ := i74.trans (hp 18 (by kernel_rfl))
        exact st_field rfl (e74) (by kernel_rfl) (hK _ _ rfl hG (Below.refl _ _))
      · intro hp K hK
        refine g_no rfl ?_
        have e58 : b.eval (.tmp 58) = _ := i58.trans (hp 2 (by kernel_rfl))
        have e75 : b.eval (.tmp 75) = _ := i75.trans (hp 19 (by kernel_rfl))
        exact st_index rfl (e75) (e58) (ixa _ _ _ hrd'.out _) (hK _ _ rfl hG (Below.refl _ _))
    intro vs W hG hp b hb
    have q0 : vs 0 = _ := hp 0 (by decide)
    have q1 : vs 1 = _ := hp 1 (by decide)
    have q2 : vs 2 = _ := hp 2 (by decide)
    have q3 : vs 3 = _ := hp 3 (by decide)
    have q4 : vs 4 = _ := hp 4 (by decide)
    have q5 : vs 5 = _ := hp 5 (by decide)
    have q6 : vs 6 = _ := hp 6 (by decide)
    have q7 : vs 7 = _ := hp 7 (by decide)
    have q8 : vs 8 = _ := hp 8 (by decide)
    have q9 : vs 9 = _ := hp 9 (by decide)
    have q10 : vs 10 = _ := hp 10 (by decide)
    have q11 : vs 11 = _ := hp 11 (by decide)
    have q12 : vs 12 = _ := hp 12 (by decide)
    have q13 : vs 13 = _ := hp 13 (by decide)
    have q14 : vs 14 = _ := hp 14 (by decide)
    have q15 : vs 15 = _ := hp 15 (by decide)
    have q16 : vs 16 = _ := hp 16 (by decide)
    have q17 : vs 17 = _ := hp 17 (by decide)
    have q18 : vs 18 = _ := hp 18 (by decide)
    have q19 : vs 19 = _ := hp 19 (by decide)
    have q20 : vs 20 = _ := hp 20 (by decide)
    clear hp
    simp only [fill, Act.put, List.append_eq, List.cons_append, List.nil_append, List.take_succ_cons, List.take_zero, List.setIfInBounds_toArray, List.set_cons_succ, List.set_cons_zero, Nat.reduceAdd, Nat.zero_add, q0, q1, q2, q3, q4, q5, q6, q7, q8, q9, q10, q11, q12, q13, q14, q15, q16, q17, q18, q19, q20] at hb
    subst hb
    simp only [List.append_eq, List.cons_append, List.nil_append, List.drop_succ_cons, List.drop_zero]
    clear q0 q1 q2 q3 q4 q5 q6 q7 q8 q9 q10 q11 q12 q13 q14 q15 q16 q17 q18 q19 q20
    have z : W.cell? ⟨gm, 2 + rd, none⟩ = some (.int .u32 (σ rd)) := (blk_cell hG.1.2.2 (2 + rd)).trans (marr_get _ hrd'.out)
    have y := blk_frozen hG.1.2.2 (2 + rd)
    have hJ := Lib.hid hG
    clear hG
    generalize hvv : (IntKind.u32.wrap (σ rs1 + σ rs2)) = vv
    go_wp2
    replace hJ := hJ.out
    have hG : (Below w.heap.size w (W.setCell ⟨gm, 2 + rd, none⟩ (.int .u32 vv)) ∧ (W.setCell ⟨gm, 2 + rd, none⟩ (.int .u32 vv)).heap[g1]? = some (.cells (arr fun _ => 0) 24 (0, 0)) ∧ (W.setCell ⟨gm, 2 + rd, none⟩ (.int .u32 vv)).heap[gm]? = some (.cells (marr (upd1 σ rd vv)) 36 (0, 0))) ∧ (W.setCell ⟨gm, 2 + rd, none⟩ (.int .u32 vv)).heap[gx]? = some (.cells #[.int .i64 1, .int .i64 (rd : Int), .int .i64 (rs1 : Int), .int .i64 (rs2 : Int), .int .i32 im] 38 (0, 0)) := ⟨⟨below_set hJ.1.1 (by omega), blk_far hJ.1.2.1 (by show _ ≠ gm; omega) _, blk_put hJ.1.2.2 (2 + rd) _ (marr_put σ hrd'.out _)⟩, blk_far hJ.2 (by show _ ≠ gm; omega) _⟩
    generalize W.setCell ⟨gm, 2 + rd, none⟩ (.int .u32 vv) = V at *
    clear hJ z y
    subst hvv
    refine HK26.out _ _ ?_
    clear HK26
    refine wp_listed (R := fun W W' => Below W.heap.size W W') 4 [.val (.pointer (some ⟨gm, 0, none⟩)), .val (.pointer (some ⟨gm, 0, none⟩)), .val (.pointer (some ⟨gm, 2, none⟩)), .val (.pointer (some ⟨gm, 2 + 0, none⟩))] (fun W => (Below w.heap.size w W ∧ W.heap[g1]? = some (.cells (arr fun _ => 0) 24 (0, 0)) ∧ W.heap[gm]? = some (.cells (marr (upd1 σ rd (IntKind.u32.wrap (σ rs1 + σ rs2)))) 36 (0, 0))) ∧ W.heap[gx]? = some (.cells #[.int .i64 1, .int .i64 (rd : Int), .int .i64 (rs1 : Int), .int .i64 (rs2 : Int), .int .i32 im] 38 (0, 0))) (by kernel_rfl) hG ?_ ?_
    · intro vs W hG b hb
      have e5 : b.eval (.tmp 5) = .pointer (some ⟨gm, 0, none⟩) := eo hb (by kernel_rfl)
      have i77 := ei (d := 77) hb 0 (by kernel_rfl) rfl rfl (by simp)
      have i78 := ei (d := 78) hb 1 (by kernel_rfl) rfl rfl (by simp)
      have i79 := ei (d := 79) hb 2 (by kernel_rfl) rfl rfl (by simp)
      clear hb
      refine And.intro ?_ (And.intro ?_ (And.intro ?_ (And.intro ?_ (trivial))))
      · intro hp K hK
        refine g_no rfl ?_
        exact st_move (.inl rfl) (e5) (hK _ _ rfl hG (Below.refl _ _))
      · intro hp K hK
        refine g_no rfl ?_
        have e77 : b.eval (.tmp 77) = _ := i77.trans (hp 0 (by kernel_rfl))
        exact st_nilCheck rfl (e77) (hK _ _ rfl hG (Below.refl _ _))
      · intro hp K hK
        refine g_no rfl ?_
        have e78 : b.eval (.tmp 78) = _ := i78.trans (hp 1 (by kernel_rfl))
        exact st_field rfl (e78) (by kernel_rfl) (hK _ _ rfl hG (Below.refl _ _))
      · intro hp K hK
        refine g_no rfl ?_
        have e79 : b.eval (.tmp 79) = _ := i79.trans (hp 2 (by kernel_rfl))
        exact st_index rfl (e79) (eval_const _) (ixa _ _ 0 (by decide) _) (hK _ _ rfl hG (Below.refl _ _))
    intro vs W hG hp b hb
    have q0 : vs 0 = _ := hp 0 (by decide)
    have q1 : vs 1 = _ := hp 1 (by decide)
    have q2 : vs 2 = _ := hp 2 (by decide)
    have q3 : vs 3 = _ := hp 3 (by decide)
    clear hp
    simp only [fill, Act.put, List.append_eq, List.cons_append, List.nil_append, List.take_succ_cons, List.take_zero, List.setIfInBounds_toArray, List.set_cons_succ, List.set_cons_zero, Nat.reduceAdd, Nat.zero_add, q0, q1, q2, q3] at hb
    subst hb
    simp only [List.append_eq, List.cons_append, List.nil_append, List.drop_succ_cons, List.drop_zero]
    clear q0 q1 q2 q3
    have z : W.cell? ⟨gm, 2, none⟩ = some (.int .u32 ((upd1 σ rd (IntKind.u32.wrap (σ rs1 + σ rs2))) 0)) := (blk_cell hG.1.2.2 (2 + 0)).trans (marr_get _ (by decide))
    have y := blk_frozen hG.1.2.2 2
    have hJ := Lib.hid hG.1
    clear hG
    have hl : IntKind.i64.wrap ((i : Int) + 1) = (i : Int) + 1 := IntWalk.i64_in _ (by have := HL.out; have := hil.out; omega)
    go_wp2
    replace hJ := hJ.out
    refine HK8.out _ _ ?_
    clear HK8
    go_wp2
    refine ⟨loop_frame (by kernel_rfl), ⟨i + 1, by show Value.int .i64 _ = _; simp, hil.out, below_set hJ.1 (by omega), blk_far hJ.2.1 (by show _ ≠ gm; omega) _, ?_⟩, ?_⟩
    · rw [hst.out]
      exact blk_put hJ.2.2 (2 + 0) _ (marr_put _ (by decide) _)
    · exact Msr.lt (by have := hil.out; omega)
end Go.Proofs.Yteglbikbnlebpaa.Pd
