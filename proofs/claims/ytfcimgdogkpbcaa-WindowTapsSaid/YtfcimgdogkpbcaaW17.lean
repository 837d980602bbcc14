/- Window: each output has a tap. -/
import Derived.Test.YtfcimgdogkpbcaaW16
namespace Go.Proofs.Ytfcimgdogkpbcaa.W
open Go.RowKit T1 F Dr
set_option linter.unusedVariables false
set_option linter.unusedSimpArgs false
set_option maxRecDepth 100000

theorem le_out {n k s p q y : Int} (hs : 1 ≤ s) (hy : y < outV n k s p q) : y * s ≤ n + p + q - k := by
  unfold outV at hy
  exact (Int.le_ediv_iff_mul_le (by omega)).1 (by omega)
theorem has_tap {n k s p q y : Int} (hn : 1 ≤ n) (hk : 1 ≤ k) (hs : 1 ≤ s) (hp : 0 ≤ p ∧ p ≤ k - 1) (hq : 0 ≤ q ∧ q ≤ k - 1) (hy : 0 ≤ y ∧ y < outV n k s p q) : ∃ i, 0 ≤ i ∧ i < k ∧ 0 ≤ y * s + i - p ∧ y * s + i - p < n := by
  have h := le_out hs hy.2
  have h0 : 0 ≤ y * s := Int.mul_nonneg hy.1 (by omega)
  by_cases hc : y * s ≤ p
  · exact ⟨p - y * s, by omega, by omega, by omega, by omega⟩
  · exact ⟨0, by omega, by omega, by omega, by omega⟩
theorem taps_pos {n0 n1 k0 k1 s0 s1 p0 p1 p2 p3 y x : Int} (hg : goodV n0 n1 k0 k1 s0 s1 p0 p1 p2 p3 = true) (hy : 0 ≤ y ∧ y < outV n0 k0 s0 p0 p2) (hx : 0 ≤ x ∧ x < outV n1 k1 s1 p1 p3) : 0 < (tapsL n0 n1 k1 s0 s1 p0 p1 y x (k0 * k1).toNat).length := by
  obtain ⟨h00, h01, h02, h03, h04, h10, h11, h12, h13, h14, ha, hb⟩ := goodV_iff.1 hg
  obtain ⟨i, i0, i1, i2, i3⟩ := has_tap h00.1 h01.1 h02.1 h03 h04 hy
  obtain ⟨j, j0, j1, j2, j3⟩ := has_tap h10.1 h11.1 h12.1 h13 h14 hx
  have e1 : (i.toNat : Int) = i := Int.toNat_of_nonneg i0
  have e2 : (j.toNat : Int) = j := Int.toNat_of_nonneg j0
  obtain ⟨q1, q2, -⟩ := at_place (i := i.toNat) (j := j.toNat) (k1 := k1) h11.1 (by omega)
  rw [e1, e2] at q1 q2
  have hlt : i * k1 + j < k0 * k1 := by
    have := Int.mul_le_mul_of_nonneg_right (show i + 1 ≤ k0 by omega) (show 0 ≤ k1 by omega)
    rw [Int.add_mul, Int.one_mul] at this
    omega
  have h0 : 0 ≤ i * k1 := Int.mul_nonneg i0 (by omega)
  apply List.length_pos_of_mem (a := (i, j))
  unfold tapsL
  refine List.mem_filter.2 ⟨List.mem_map.2 ⟨(i * k1 + j).toNat, List.mem_range.2 (by omega), by rw [q1, q2]⟩, ?_⟩
  unfold inB
  rw [decide_eq_true i2, decide_eq_true i3, decide_eq_true j2, decide_eq_true j3]
  rfl
set_option maxHeartbeats 8000000 in
theorem never_good (n0 n1 k0 k1 s0 s1 p0 p1 p2 p3 : Int) (w : World) (h : goodV n0 n1 k0 k1 s0 s1 p0 p1 p2 p3 = true) : Calls Try.prog 10 #[.agg #[.int .i64 n0, .int .i64 n1, .int .i64 k0, .int .i64 k1, .int .i64 s0, .int .i64 s1, .int .i64 p0, .int .i64 p1, .int .i64 p2, .int .i64 p3]] w (fun e w' => e = .returned (.bool true) ∧ Below w.heap.size w w') := by
  have H := Lib.hid h
  clear h
  have J := Lib.hid (WS.start n0 n1 k0 k1 s0 s1 p0 p1 p2 p3 w)
  go_enter Try.func10, Try.ntmps10
  apply wp_seq_k
  intro K1 hK1
  have HK1 := Lib.hid hK1
  clear hK1
  go_wp2
  refine HK1.out _ _ ?_
  clear HK1
  generalize w.alloc (win n0 n1 k0 k1 s0 s1 p0 p1 p2 p3) = u0 at *
  replace J := J.out
  apply wp_seq_k
  intro K2 hK2
  have HK2 := Lib.hid hK2
  clear hK2
  refine wp_listed (R := fun W W' => Below W.heap.size W W') 13 [.val (.pointer (some ⟨w.heap.size, 0, none⟩)), .val (.agg #[.int .i64 n0, .int .i64 n1]), .val (.pointer (some ⟨w.heap.size, 2, none⟩)), .val (.agg #[.int .i64 k0, .int .i64 k1]), .val (.pointer (some ⟨w.heap.size, 4, none⟩)), .val (.agg #[.int .i64 s0, .int .i64 s1]), .val (.pointer (some ⟨w.heap.size, 6, none⟩)), .val (.agg #[.int .i64 p0, .int .i64 p1, .int .i64 p2, .int .i64 p3]), .val (.tuple #[.agg #[.int .i64 (outV n0 k0 s0 p0 p2), .int .i64 (outV n1 k1 s1 p1 p3)], .bool true]), .val (.tuple #[.agg #[.int .i64 (outV n0 k0 s0 p0 p2), .int .i64 (outV n1 k1 s1 p1 p3)], .bool true]), .val (.agg #[.int .i64 (outV n0 k0 s0 p0 p2), .int .i64 (outV n1 k1 s1 p1 p3)]), .val (.bool true), newSpec (box2 0 0) (w.heap.size + 1)] (fun W => WS n0 n1 k0 k1 s0 s1 p0 p1 p2 p3 w W) (by kernel_rfl) J ?_ ?_
  · intro vs W hG b hb
    have e1 : b.eval (.tmp 1) = .pointer (some ⟨w.heap.size, 0, none⟩) := (congrArg (fun x => Act.eval x (.tmp 1)) hb).trans ((fill_out _ 0 _ (by kernel_rfl)).trans rfl)
    have i8 : b.eval (.tmp 8) = vs 9 := (congrArg (fun x => Act.eval x (.tmp 8)) hb).trans ((fill_in _ 0 9 _ _ 8 (by kernel_rfl) rfl rfl (by simp)).trans (congrArg vs (Nat.zero_add _)))
    have i9 : b.eval (.tmp 9) = vs 0 := (congrArg (fun x => Act.eval x (.tmp 9)) hb).trans ((fill_in _ 0 0 _ _ 9 (by kernel_rfl) rfl rfl (by simp)).trans (congrArg vs (Nat.zero_add _)))
    have i10 : b.eval (.tmp 10) = vs 1 := (congrArg (fun x => Act.eval x (.tmp 10)) hb).trans ((fill_in _ 0 1 _ _ 10 (by kernel_rfl) rfl rfl (by simp)).trans (congrArg vs (Nat.zero_add _)))
    have i11 : b.eval (.tmp 11) = vs 2 := (congrArg (fun x => Act.eval x (.tmp 11)) hb).trans ((fill_in _ 0 2 _ _ 11 (by kernel_rfl) rfl rfl (by simp)).trans (congrArg vs (Nat.zero_add _)))
    have i12 : b.eval (.tmp 12) = vs 3 := (congrArg (fun x => Act.eval x (.tmp 12)) hb).trans ((fill_in _ 0 3 _ _ 12 (by kernel_rfl) rfl rfl (by simp)).trans (congrArg vs (Nat.zero_add _)))
    have i13 : b.eval (.tmp 13) = vs 4 := (congrArg (fun x => Act.eval x (.tmp 13)) hb).trans ((fill_in _ 0 4 _ _ 13 (by kernel_rfl) rfl rfl (by simp)).trans (congrArg vs (Nat.zero_add _)))
    have i14 : b.eval (.tmp 14) = vs 5 := (congrArg (fun x => Act.eval x (.tmp 14)) hb).trans ((fill_in _ 0 5 _ _ 14 (by kernel_rfl) rfl rfl (by simp)).trans (congrArg vs (Nat.zero_add _)))
    have i15 : b.eval (.tmp 15) = vs 6 := (congrArg (fun x => Act.eval x (.tmp 15)) hb).trans ((fill_in _ 0 6 _ _ 15 (by kernel_rfl) rfl rfl (by simp)).trans (congrArg vs (Nat.zero_add _)))
    have i16 : b.eval (.tmp 16) = vs 7 := (congrArg (fun x => Act.eval x (.tmp 16)) hb).trans ((fill_in _ 0 7 _ _ 16 (by kernel_rfl) rfl rfl (by simp)).trans (congrArg vs (Nat.zero_add _)))
    have i17 : b.eval (.tmp 17) = vs 8 := (congrArg (fun x => Act.eval x (.tmp 17)) hb).trans ((fill_in _ 0 8 _ _ 17 (by kernel_rfl) rfl rfl (by simp)).trans (congrArg vs (Nat.zero_add _)))
    clear hb
    refine And.intro ?_ (And.intro ?_ (And.intro ?_ (And.intro ?_ (And.intro ?_ (And.intro ?_ (And.intro ?_ (And.intro ?_ (And.intro ?_ (And.intro ?_ (And.intro ?_ (And.intro ?_ (And.intro ?_ (trivial)))))))))))))
    · intro hp K hK
      refine g_no rfl ?_
      exact st_field rfl (e1) (by kernel_rfl) (hK _ _ rfl hG (Below.refl _ _))
    · intro hp K hK
      refine g_no rfl ?_
      have e9 : b.eval (.tmp 9) = .pointer (some ⟨w.heap.size, 0, none⟩) := i9.trans (hp 0 (by kernel_rfl))
      exact st_load rfl (e9) (ldw0 hG.b0) (hK _ _ rfl hG (Below.refl _ _))
    · intro hp K hK
      refine g_no rfl ?_
      exact st_field rfl (e1) (by kernel_rfl) (hK _ _ rfl hG (Below.refl _ _))
    · intro hp K hK
      refine g_no rfl ?_
      have e11 : b.eval (.tmp 11) = .pointer (some ⟨w.heap.size, 2, none⟩) := i11.trans (hp 2 (by kernel_rfl))
      exact st_load rfl (e11) (ldw2 hG.b0) (hK _ _ rfl hG (Below.refl _ _))
    · intro hp K hK
      refine g_no rfl ?_
      exact st_field rfl (e1) (by kernel_rfl) (hK _ _ rfl hG (Below.refl _ _))
    · intro hp K hK
      refine g_no rfl ?_
      have e13 : b.eval (.tmp 13) = .pointer (some ⟨w.heap.size, 4, none⟩) := i13.trans (hp 4 (by kernel_rfl))
      exact st_load rfl (e13) (ldw4 hG.b0) (hK _ _ rfl hG (Below.refl _ _))
    · intro hp K hK
      refine g_no rfl ?_
      exact st_field rfl (e1) (by kernel_rfl) (hK _ _ rfl hG (Below.refl _ _))
    · intro hp K hK
      refine g_no rfl ?_
      have e15 : b.eval (.tmp 15) = .pointer (some ⟨w.heap.size, 6, none⟩) := i15.trans (hp 6 (by kernel_rfl))
      exact st_load rfl (e15) (ldw6 hG.b0) (hK _ _ rfl hG (Below.refl _ _))
    · intro hp K hK
      refine g_no rfl ?_
      have e10 : b.eval (.tmp 10) = .agg #[.int .i64 n0, .int .i64 n1] := i10.trans (hp 1 (by kernel_rfl))
      have e12 : b.eval (.tmp 12) = .agg #[.int .i64 k0, .int .i64 k1] := i12.trans (hp 3 (by kernel_rfl))
      have e14 : b.eval (.tmp 14) = .agg #[.int .i64 s0, .int .i64 s1] := i14.trans (hp 5 (by kernel_rfl))
      have e16 : b.eval (.tmp 16) = .agg #[.int .i64 p0, .int .i64 p1, .int .i64 p2, .int .i64 p3] := i16.trans (hp 7 (by kernel_rfl))
      refine st_call rfl (by first | (simp only [List.map_toArray, List.map_cons, List.map_nil, eval_const, e10, e12, e14, e16]; done) | (simp only [List.map_toArray, List.map_cons, List.map_nil, eval_const, e10, e12, e14, e16]; rfl)) (by kernel_rfl) ?_
      refine (Out_good n0 n1 k0 k1 s0 s1 p0 p1 p2 p3 _ H.out).mono ?_
      rintro e w' ⟨rfl, hb'⟩
      exact ⟨_, rfl, hK _ _ rfl (hG.step hb') hb'⟩
    · intro hp K hK
      refine g_no rfl ?_
      have e17 : b.eval (.tmp 17) = .tuple #[.agg #[.int .i64 (outV n0 k0 s0 p0 p2), .int .i64 (outV n1 k1 s1 p1 p3)], .bool true] := i17.trans (hp 8 (by kernel_rfl))
      exact st_move (.inl rfl) (e17) (hK _ _ rfl hG (Below.refl _ _))
    · intro hp K hK
      refine g_no rfl ?_
      have e8 : b.eval (.tmp 8) = .tuple #[.agg #[.int .i64 (outV n0 k0 s0 p0 p2), .int .i64 (outV n1 k1 s1 p1 p3)], .bool true] := i8.trans (hp 9 (by kernel_rfl))
      exact st_extract rfl (e8) (by kernel_rfl) (hK _ _ rfl hG (Below.refl _ _))
    · intro hp K hK
      refine g_no rfl ?_
      have e8 : b.eval (.tmp 8) = .tuple #[.agg #[.int .i64 (outV n0 k0 s0 p0 p2), .int .i64 (outV n1 k1 s1 p1 p3)], .bool true] := i8.trans (hp 9 (by kernel_rfl))
      exact st_extract rfl (e8) (by kernel_rfl) (hK _ _ rfl hG (Below.refl _ _))
    · intro hp K hK
      refine g_no rfl ?_
      exact st_alloc rfl (new2 _) (hK _ _ ⟨_, rfl, blk_new _ _, hG.size⟩ (hG.alloc _) ((Below.refl _ _).alloc (Nat.le_refl _) _))
  intro vs W hG hp b hb
  have q0 : vs 0 = .pointer (some ⟨w.heap.size, 0, none⟩) := hp 0 (by decide)
  have q1 : vs 1 = .agg #[.int .i64 n0, .int .i64 n1] := hp 1 (by decide)
  have q2 : vs 2 = .pointer (some ⟨w.heap.size, 2, none⟩) := hp 2 (by decide)
  have q3 : vs 3 = .agg #[.int .i64 k0, .int .i64 k1] := hp 3 (by decide)
  have q4 : vs 4 = .pointer (some ⟨w.heap.size, 4, none⟩) := hp 4 (by decide)
  have q5 : vs 5 = .agg #[.int .i64 s0, .int .i64 s1] := hp 5 (by decide)
  have q6 : vs 6 = .pointer (some ⟨w.heap.size, 6, none⟩) := hp 6 (by decide)
  have q7 : vs 7 = .agg #[.int .i64 p0, .int .i64 p1, .int .i64 p2, .int .i64 p3] := hp 7 (by decide)
  have q8 : vs 8 = .tuple #[.agg #[.int .i64 (outV n0 k0 s0 p0 p2), .int .i64 (outV n1 k1 s1 p1 p3)], .bool true] := hp 8 (by decide)
  have q9 : vs 9 = .tuple #[.agg #[.int .i64 (outV n0 k0 s0 p0 p2), .int .i64 (outV n1 k1 s1 p1 p3)], .bool true] := hp 9 (by decide)
  have q10 : vs 10 = .agg #[.int .i64 (outV n0 k0 s0 p0 p2), .int .i64 (outV n1 k1 s1 p1 p3)] := hp 10 (by decide)
  have q11 : vs 11 = .bool true := hp 11 (by decide)
  have q12 : ∃ gg, (vs 12) = .pointer (some ⟨gg, 0, none⟩) ∧ W.heap[gg]? = some (box2 0 0) ∧ w.heap.size + 1 ≤ gg := hp 12 (by decide)
  clear hp
  simp only [fill, Act.put, List.append_eq, List.cons_append, List.nil_append, List.take_succ_cons, List.take_zero, List.setIfInBounds_toArray, List.set_cons_succ, List.set_cons_zero, Nat.reduceAdd, Nat.zero_add, q0, q1, q2, q3, q4, q5, q6, q7, q8, q9, q10, q11] at hb
  subst hb
  simp only [List.append_eq, List.cons_append, List.nil_append, List.drop_succ_cons, List.drop_zero]
  clear q0 q1 q2 q3 q4 q5 q6 q7 q8 q9 q10 q11
  obtain ⟨g, hv, A, hg⟩ := q12
  rw [hv]
  clear hv J
  have z0 : _ = some (Value.int .i64 0) := (blk_cell A 0).trans rfl
  have y0 := blk_frozen A 0
  have z1 : _ = some (Value.int .i64 0) := (blk_cell A 1).trans rfl
  have y1 := blk_frozen A 1
  have hJ := Lib.hid hG
  clear hG
  go_wp2
  replace hJ := hJ.out
  have hG := ((hJ.set hg 0 (.int .i64 (outV n0 k0 s0 p0 p2))).set hg 1 (.int .i64 (outV n1 k1 s1 p1 p3)))
  have hA : (((W.setCell ⟨g, 0, none⟩ (.int .i64 (outV n0 k0 s0 p0 p2))).setCell ⟨g, 1, none⟩ (.int .i64 (outV n1 k1 s1 p1 p3)))).heap[g]? = some (box2 (outV n0 k0 s0 p0 p2) (outV n1 k1 s1 p1 p3)) := (blk_put (blk_put A 0 _ rfl) 1 _ rfl)
  generalize (W.setCell ⟨g, 0, none⟩ (.int .i64 (outV n0 k0 s0 p0 p2))).setCell ⟨g, 1, none⟩ (.int .i64 (outV n1 k1 s1 p1 p3)) = V at *
  clear hJ A z0 z1 y0 y1
  refine HK2.out _ _ ?_
  clear HK2
  have hG := And.intro hG hA
  clear hA
  apply wp_seq_k
  intro K3 hK3
  have HK3 := Lib.hid hK3
  clear hK3
  apply wp_seq_k
  intro K4 hK4
  have HK4 := Lib.hid hK4
  clear hK4
  have hJ := Lib.hid hG
  clear hG
  go_wp2
  replace hJ := hJ.out
  refine HK4.out _ _ ?_
  clear HK4
  apply wp_block
  have hO := prodb (a := (outV n0 k0 s0 p0 p2)) (b := (outV n1 k1 s1 p1 p3)) (c := 200) (d := 200) (by obtain ⟨h00, h01, h02, h03, h04, h10, h11, h12, h13, h14, ha, hb⟩ := goodV_iff.1 H.out; have := out_mid ⟨h00, h01, h02, h03, h04, ha⟩; omega) (by obtain ⟨h00, h01, h02, h03, h04, h10, h11, h12, h13, h14, ha, hb⟩ := goodV_iff.1 H.out; have := out_mid ⟨h10, h11, h12, h13, h14, hb⟩; omega)
  have hO1 : 1 ≤ (outV n1 k1 s1 p1 p3) ∧ (outV n1 k1 s1 p1 p3) ≤ 200 := by obtain ⟨h00, h01, h02, h03, h04, h10, h11, h12, h13, h14, ha, hb⟩ := goodV_iff.1 H.out; exact out_mid ⟨h10, h11, h12, h13, h14, hb⟩
  have HO := Lib.hid hO
  have HO1 := Lib.hid hO1
  clear hO hO1
  refine wp_loopS [5, 6, 7, 20, 21, 22, 23, 24, 25, 26, 27, 28, 29, 30, 31, 32, 33, 34, 35, 36, 37, 38, 39, 40, 41, 42, 43, 44, 45, 46, 47, 48, 49, 50, 51, 52, 53, 54, 55, 56, 57, 58, 59, 60, 61, 62] (fun sl W => ∃ m : Nat, sl 5 = .int .i64 (m : Int) ∧ (m : Int) ≤ (outV n0 k0 s0 p0 p2) * (outV n1 k1 s1 p1 p3) ∧ WS n0 n1 k0 k1 s0 s1 p0 p1 p2 p3 w W ∧ W.heap[g]? = some (box2 (outV n0 k0 s0 p0 p2) (outV n1 k1 s1 p1 p3))) (fun sl W => Msr ((outV n0 k0 s0 p0 p2) * (outV n1 k1 s1 p1 p3)) (sl 5)) ⟨0, rfl, HO.out.1, hJ⟩ ?_
  intro vs W b hb hI
  clear hJ
  obtain ⟨m, h5, hm, hG⟩ := hI
  simp only [setSlots, Act.put, List.setIfInBounds_toArray, List.set_cons_succ, List.set_cons_zero] at hb
  subst hb
  replace h5 : vs 5 = .int .i64 (m : Int) := h5
  rw [h5]
  clear h5
  apply wp_seq_k
  intro K5 hK5
  have HK5 := Lib.hid hK5
  clear hK5
  apply wp_seq_k
  intro K6 hK6
  have HK6 := Lib.hid hK6
  clear hK6
  refine wp_listed (R := fun W W' => Below W.heap.size W W') 14 [.val (.bool true), .val (.bool true), .val ((bif ((true) == true) then (.int .i64 (m : Int)) else undef)), .val ((bif ((true) == true) then (.pointer (some ⟨g, 0, none⟩)) else undef)), .val ((bif ((true) == true) then (.int .i64 (outV n0 k0 s0 p0 p2)) else undef)), .val ((bif ((true) == true) then (.pointer (some ⟨g, 1, none⟩)) else undef)), .val ((bif ((true) == true) then (.int .i64 (outV n1 k1 s1 p1 p3)) else undef)), .val ((bif ((true) == true) then (.int .i64 ((outV n0 k0 s0 p0 p2) * (outV n1 k1 s1 p1 p3))) else undef)), .val ((bif ((true) == true) then (.bool (decide ((m : Int) < ((outV n0 k0 s0 p0 p2) * (outV n1 k1 s1 p1 p3))))) else undef)), .val (.bool (true && (decide ((m : Int) < ((outV n0 k0 s0 p0 p2) * (outV n1 k1 s1 p1 p3)))))), .val (.bool (true && (decide ((m : Int) < ((outV n0 k0 s0 p0 p2) * (outV n1 k1 s1 p1 p3)))))), .val ((bif ((true && (decide ((m : Int) < ((outV n0 k0 s0 p0 p2) * (outV n1 k1 s1 p1 p3))))) == true) then (.int .i64 (m : Int)) else undef)), .val ((bif ((true && (decide ((m : Int) < ((outV n0 k0 s0 p0 p2) * (outV n1 k1 s1 p1 p3))))) == true) then (.bool (decide ((m : Int) < 400))) else undef)), .val (.bool (decide ((m : Int) < (outV n0 k0 s0 p0 p2) * (outV n1 k1 s1 p1 p3)) && decide ((m : Int) < 400)))] (fun W => WS n0 n1 k0 k1 s0 s1 p0 p1 p2 p3 w W ∧ W.heap[g]? = some (box2 (outV n0 k0 s0 p0 p2) (outV n1 k1 s1 p1 p3))) (by kernel_rfl) hG ?_ ?_
  · intro vs W hG b hb
    have e3 : b.eval (.tmp 3) = .pointer (some ⟨g, 0, none⟩) := (congrArg (fun x => Act.eval x (.tmp 3)) hb).trans ((fill_out _ 0 _ (by kernel_rfl)).trans rfl)
    have e4 : b.eval (.tmp 4) = .bool true := (congrArg (fun x => Act.eval x (.tmp 4)) hb).trans ((fill_out _ 0 _ (by kernel_rfl)).trans rfl)
    have e5 : b.eval (.tmp 5) = .int .i64 (m : Int) := (congrArg (fun x => Act.eval x (.tmp 5)) hb).trans ((fill_out _ 0 _ (by kernel_rfl)).trans rfl)
    have i20 : b.eval (.tmp 20) = vs 0 := (congrArg (fun x => Act.eval x (.tmp 20)) hb).trans ((fill_in _ 0 0 _ _ 20 (by kernel_rfl) rfl rfl (by simp)).trans (congrArg vs (Nat.zero_add _)))
    have i21 : b.eval (.tmp 21) = vs 1 := (congrArg (fun x => Act.eval x (.tmp 21)) hb).trans ((fill_in _ 0 1 _ _ 21 (by kernel_rfl) rfl rfl (by simp)).trans (congrArg vs (Nat.zero_add _)))
    have i22 : b.eval (.tmp 22) = vs 2 := (congrArg (fun x => Act.eval x (.tmp 22)) hb).trans ((fill_in _ 0 2 _ _ 22 (by kernel_rfl) rfl rfl (by simp)).trans (congrArg vs (Nat.zero_add _)))
    have i23 : b.eval (.tmp 23) = vs 3 := (congrArg (fun x => Act.eval x (.tmp 23)) hb).trans ((fill_in _ 0 3 _ _ 23 (by kernel_rfl) rfl rfl (by simp)).trans (congrArg vs (Nat.zero_add _)))
    have i24 : b.eval (.tmp 24) = vs 4 := (congrArg (fun x => Act.eval x (.tmp 24)) hb).trans ((fill_in _ 0 4 _ _ 24 (by kernel_rfl) rfl rfl (by simp)).trans (congrArg vs (Nat.zero_add _)))
    have i25 : b.eval (.tmp 25) = vs 5 := (congrArg (fun x => Act.eval x (.tmp 25)) hb).trans ((fill_in _ 0 5 _ _ 25 (by kernel_rfl) rfl rfl (by simp)).trans (congrArg vs (Nat.zero_add _)))
    have i26 : b.eval (.tmp 26) = vs 6 := (congrArg (fun x => Act.eval x (.tmp 26)) hb).trans ((fill_in _ 0 6 _ _ 26 (by kernel_rfl) rfl rfl (by simp)).trans (congrArg vs (Nat.zero_add _)))
    have i27 : b.eval (.tmp 27) = vs 7 := (congrArg (fun x => Act.eval x (.tmp 27)) hb).trans ((fill_in _ 0 7 _ _ 27 (by kernel_rfl) rfl rfl (by simp)).trans (congrArg vs (Nat.zero_add _)))
    have i28 : b.eval (.tmp 28) = vs 8 := (congrArg (fun x => Act.eval x (.tmp 28)) hb).trans ((fill_in _ 0 8 _ _ 28 (by kernel_rfl) rfl rfl (by simp)).trans (congrArg vs (Nat.zero_add _)))
    have i29 : b.eval (.tmp 29) = vs 9 := (congrArg (fun x => Act.eval x (.tmp 29)) hb).trans ((fill_in _ 0 9 _ _ 29 (by kernel_rfl) rfl rfl (by simp)).trans (congrArg vs (Nat.zero_add _)))
    have i30 : b.eval (.tmp 30) = vs 10 := (congrArg (fun x => Act.eval x (.tmp 30)) hb).trans ((fill_in _ 0 10 _ _ 30 (by kernel_rfl) rfl rfl (by simp)).trans (congrArg vs (Nat.zero_add _)))
    have i31 : b.eval (.tmp 31) = vs 11 := (congrArg (fun x => Act.eval x (.tmp 31)) hb).trans ((fill_in _ 0 11 _ _ 31 (by kernel_rfl) rfl rfl (by simp)).trans (congrArg vs (Nat.zero_add _)))
    have i32 : b.eval (.tmp 32) = vs 12 := (congrArg (fun x => Act.eval x (.tmp 32)) hb).trans ((fill_in _ 0 12 _ _ 32 (by kernel_rfl) rfl rfl (by simp)).trans (congrArg vs (Nat.zero_add _)))
    clear hb
    refine And.intro ?_ (And.intro ?_ (And.intro ?_ (And.intro ?_ (And.intro ?_ (And.intro ?_ (And.intro ?_ (And.intro ?_ (And.intro ?_ (And.intro ?_ (And.intro ?_ (And.intro ?_ (And.intro ?_ (And.intro ?_ (trivial))))))))))))))
    · intro hp K hK
      refine g_no rfl ?_
      exact st_move (.inl rfl) (e4) (hK _ _ rfl hG (Below.refl _ _))
    · intro hp K hK
      refine g_no rfl ?_
      have e20 : b.eval (.tmp 20) = .bool true := i20.trans (hp 0 (by kernel_rfl))
      exact st_move (.inl rfl) (e20) (hK _ _ rfl hG (Below.refl _ _))
    · intro hp K hK
      refine g_is (j := 1) (want := true) (c := true) rfl (yielded_of (d := 21) rfl rfl (i21.trans (hp 1 (by kernel_rfl)))) (fun hb => ?_) (fun hb => hK _ _ (cond_no hb) hG (Below.refl _ _))
      exact st_move (.inl rfl) (e5) (hK _ _ (cond_yes hb).symm hG (Below.refl _ _))
    · intro hp K hK
      refine g_is (j := 1) (want := true) (c := true) rfl (yielded_of (d := 21) rfl rfl (i21.trans (hp 1 (by kernel_rfl)))) (fun hb => ?_) (fun hb => hK _ _ (cond_no hb) hG (Below.refl _ _))
      exact st_index rfl (e3) (eval_const _) (by kernel_rfl) (hK _ _ (cond_yes hb).symm hG (Below.refl _ _))
    · intro hp K hK
      refine g_is (j := 1) (want := true) (c := true) rfl (yielded_of (d := 21) rfl rfl (i21.trans (hp 1 (by kernel_rfl)))) (fun hb => ?_) (fun hb => hK _ _ (cond_no hb) hG (Below.refl _ _))
      have e23 : b.eval (.tmp 23) = (bif ((true) == true) then (.pointer (some ⟨g, 0, none⟩)) else undef) := i23.trans (hp 3 (by kernel_rfl))
      replace e23 := e23.trans (cond_yes hb)
      exact st_load rfl (e23) (ld1 ((blk_cell hG.2 0).trans rfl)) (hK _ _ (cond_yes hb).symm hG (Below.refl _ _))
    · intro hp K hK
      refine g_is (j := 1) (want := true) (c := true) rfl (yielded_of (d := 21) rfl rfl (i21.trans (hp 1 (by kernel_rfl)))) (fun hb => ?_) (fun hb => hK _ _ (cond_no hb) hG (Below.refl _ _))
      exact st_index rfl (e3) (eval_const _) (by kernel_rfl) (hK _ _ (cond_yes hb).symm hG (Below.refl _ _))
    · intro hp K hK
      refine g_is (j := 1) (want := true) (c := true) rfl (yielded_of (d := 21) rfl rfl (i21.trans (hp 1 (by kernel_rfl)))) (fun hb => ?_) (fun hb => hK _ _ (cond_no hb) hG (Below.refl _ _))
      have e25 : b.eval (.tmp 25) = (bif ((true) == true) then (.pointer (some ⟨g, 1, none⟩)) else undef) := i25.trans (hp 5 (by kernel_rfl))
      replace e25 := e25.trans (cond_yes hb)
      exact st_load rfl (e25) (ld1 ((blk_cell hG.2 1).trans rfl)) (hK _ _ (cond_yes hb).symm hG (Below.refl _ _))
    · intro hp K hK
      refine g_is (j := 1) (want := true) (c := true) rfl (yielded_of (d := 21) rfl rfl (i21.trans (hp 1 (by kernel_rfl)))) (fun hb => ?_) (fun hb => hK _ _ (cond_no hb) hG (Below.refl _ _))
      have e24 : b.eval (.tmp 24) = (bif ((true) == true) then (.int .i64 (outV n0 k0 s0 p0 p2)) else undef) := i24.trans (hp 4 (by kernel_rfl))
      replace e24 := e24.trans (cond_yes hb)
      have e26 : b.eval (.tmp 26) = (bif ((true) == true) then (.int .i64 (outV n1 k1 s1 p1 p3)) else undef) := i26.trans (hp 6 (by kernel_rfl))
      replace e26 := e26.trans (cond_yes hb)
      have HO_ := HO.out
      exact st_bin rfl (e24) (e26) (b_mul (by first | rfl | exact IntWalk.i64_in _ (by omega))) (hK _ _ (cond_yes hb).symm hG (Below.refl _ _))
    · intro hp K hK
      refine g_is (j := 1) (want := true) (c := true) rfl (yielded_of (d := 21) rfl rfl (i21.trans (hp 1 (by kernel_rfl)))) (fun hb => ?_) (fun hb => hK _ _ (cond_no hb) hG (Below.refl _ _))
      have e22 : b.eval (.tmp 22) = (bif ((true) == true) then (.int .i64 (m : Int)) else undef) := i22.trans (hp 2 (by kernel_rfl))
      replace e22 := e22.trans (cond_yes hb)
      have e27 : b.eval (.tmp 27) = (bif ((true) == true) then (.int .i64 ((outV n0 k0 s0 p0 p2) * (outV n1 k1 s1 p1 p3))) else undef) := i27.trans (hp 7 (by kernel_rfl))
      replace e27 := e27.trans (cond_yes hb)
      exact st_bin rfl (e22) (e27) b_lss (hK _ _ (cond_yes hb).symm hG (Below.refl _ _))
    · intro hp K hK
      refine g_no rfl ?_
      have e21 : b.eval (.tmp 21) = .bool true := i21.trans (hp 1 (by kernel_rfl))
      have e28 : b.eval (.tmp 28) = (bif ((true) == true) then (.bool (decide ((m : Int) < ((outV n0 k0 s0 p0 p2) * (outV n1 k1 s1 p1 p3))))) else undef) := i28.trans (hp 8 (by kernel_rfl))
      exact st_pick rfl (e21) (by first | (rw [e28]; exact pick_and) | (rw [show b.eval (Operand.tmp 28) = _ from eval_const _]; exact pick_and)) (hK _ _ rfl hG (Below.refl _ _))
    · intro hp K hK
      refine g_no rfl ?_
      have e29 : b.eval (.tmp 29) = .bool (true && (decide ((m : Int) < ((outV n0 k0 s0 p0 p2) * (outV n1 k1 s1 p1 p3))))) := i29.trans (hp 9 (by kernel_rfl))
      exact st_move (.inl rfl) (e29) (hK _ _ rfl hG (Below.refl _ _))
    · intro hp K hK
      refine g_is (j := 10) (want := true) (c := true && (decide ((m : Int) < ((outV n0 k0 s0 p0 p2) * (outV n1 k1 s1 p1 p3))))) rfl (yielded_of (d := 30) rfl rfl (i30.trans (hp 10 (by kernel_rfl)))) (fun hb => ?_) (fun hb => hK _ _ (cond_no hb) hG (Below.refl _ _))
      exact st_move (.inl rfl) (e5) (hK _ _ (cond_yes hb).symm hG (Below.refl _ _))
    · intro hp K hK
      refine g_is (j := 10) (want := true) (c := true && (decide ((m : Int) < ((outV n0 k0 s0 p0 p2) * (outV n1 k1 s1 p1 p3))))) rfl (yielded_of (d := 30) rfl rfl (i30.trans (hp 10 (by kernel_rfl)))) (fun hb => ?_) (fun hb => hK _ _ (cond_no hb) hG (Below.refl _ _))
      have e31 : b.eval (.tmp 31) = (bif ((true && (decide ((m : Int) < ((outV n0 k0 s0 p0 p2) * (outV n1 k1 s1 p1 p3))))) == true) then (.int .i64 (m : Int)) else undef) := i31.trans (hp 11 (by kernel_rfl))
      replace e31 := e31.trans (cond_yes hb)
      exact st_bin rfl (e31) (eval_const _) b_lss (hK _ _ (cond_yes hb).symm hG (Below.refl _ _))
    · intro hp K hK
      refine g_no rfl ?_
      have e30 : b.eval (.tmp 30) = .bool (true && (decide ((m : Int) < ((outV n0 k0 s0 p0 p2) * (outV n1 k1 s1 p1 p3))))) := i30.trans (hp 10 (by kernel_rfl))
      have e32 : b.eval (.tmp 32) = (bif ((true && (decide ((m : Int) < ((outV n0 k0 s0 p0 p2) * (outV n1 k1 s1 p1 p3))))) == true) then (.bool (decide ((m : Int) < 400))) else undef) := i32.trans (hp 12 (by kernel_rfl))
      exact st_pick rfl (e30) (by first | (rw [e32]; exact (pick_and.trans (by rw [Bool.true_and]))) | (rw [show b.eval (Operand.tmp 32) = _ from eval_const _]; exact (pick_and.trans (by rw [Bool.true_and])))) (hK _ _ rfl hG (Below.refl _ _))
  intro vs W hG hp b hb
  have q13 : vs 13 = .bool (decide ((m : Int) < (outV n0 k0 s0 p0 p2) * (outV n1 k1 s1 p1 p3)) && decide ((m : Int) < 400)) := hp 13 (by decide)
  clear hp
  simp only [fill, Act.put, List.append_eq, List.cons_append, List.nil_append, List.take_succ_cons, List.take_zero, List.setIfInBounds_toArray, List.set_cons_succ, List.set_cons_zero, Nat.reduceAdd, Nat.zero_add, q13] at hb
  subst hb
  refine wpList_nil ?_
  clear q13
  refine HK6.out _ _ ?_
  clear HK6
  refine wp_cond_split rfl (fun hlt => ?_) (fun hlt => ?_)
  rotate_left
  · have hJ := Lib.hid hG
    clear hlt hG
    apply wp_exit
    simp only [Exit.inBlock, Exit.then, ↓reduceIte]
    replace hJ := hJ.out
    have hG := hJ
    clear hJ
    refine HK3.out _ _ ?_
    clear HK3
    apply wp_seq_k
    intro K7 hK7
    have HK7 := Lib.hid hK7
    clear hK7
    refine wp_listed (R := fun W W' => Below W.heap.size W W') 2 [.val (.bool true), .val (.bool true)] (fun W => WS n0 n1 k0 k1 s0 s1 p0 p1 p2 p3 w W ∧ W.heap[g]? = some (box2 (outV n0 k0 s0 p0 p2) (outV n1 k1 s1 p1 p3))) (by kernel_rfl) hG ?_ ?_
    · intro vs W hG b hb
      have i63 : b.eval (.tmp 63) = vs 0 := (congrArg (fun x => Act.eval x (.tmp 63)) hb).trans ((fill_in _ 0 0 _ _ 63 (by kernel_rfl) rfl rfl (by simp)).trans (congrArg vs (Nat.zero_add _)))
      clear hb
      refine And.intro ?_ (And.intro ?_ (trivial))
      · intro hp K hK
        refine g_no rfl ?_
        refine st_call rfl (by first | (simp only [List.map_toArray, List.map_cons, List.map_nil, eval_const]; done) | (simp only [List.map_toArray, List.map_cons, List.map_nil, eval_const]; rfl)) (by kernel_rfl) ?_
        refine (lives_is _).mono ?_
        rintro e w' ⟨rfl, hb'⟩
        exact ⟨_, rfl, hK _ _ rfl ⟨hG.1.step hb', blk_below hG.2 hb'⟩ hb'⟩
      · intro hp K hK
        refine g_no rfl ?_
        have e63 : b.eval (.tmp 63) = .bool true := i63.trans (hp 0 (by kernel_rfl))
        exact st_move (.inr rfl) (e63) (hK _ _ rfl hG (Below.refl _ _))
    intro vs W hG hp b hb
    have q1 : vs 1 = .bool true := hp 1 (by decide)
    clear hp
    simp only [fill, Act.put, List.append_eq, List.cons_append, List.nil_append, List.take_succ_cons, List.take_zero, List.setIfInBounds_toArray, List.set_cons_succ, List.set_cons_zero, Nat.reduceAdd, Nat.zero_add, q1] at hb
    subst hb
    refine wpList_nil ?_
    clear q1
    refine HK7.out _ _ ?_
    clear HK7
    have hG := Lib.hid hG
    go_wp2
    go_ret
    exact ⟨rfl, hG.out.1.bel⟩
  rw [Bool.and_eq_true] at hlt
  replace hlt := of_decide_eq_true hlt.1
  apply wp_skip
  simp only [Exit.then]
  refine HK5.out _ _ ?_
  clear HK5
  apply wp_seq_k
  intro K8 hK8
  have HK8 := Lib.hid hK8
  clear hK8
  apply wp_block
  have hD : 0 ≤ ((m : Int) / (outV n1 k1 s1 p1 p3)) ∧ ((m : Int) / (outV n1 k1 s1 p1 p3)) < (outV n0 k0 s0 p0 p2) := ⟨Int.ediv_nonneg (by omega) (by have := HO1.out; omega), Int.ediv_lt_of_lt_mul (by have := HO1.out; omega) hlt⟩
  have hM : 0 ≤ ((m : Int) % (outV n1 k1 s1 p1 p3)) ∧ ((m : Int) % (outV n1 k1 s1 p1 p3)) < (outV n1 k1 s1 p1 p3) := ⟨Int.emod_nonneg _ (by have := HO1.out; omega), Int.emod_lt_of_pos _ (by have := HO1.out; omega)⟩
  have HP := Lib.hid (taps_pos H.out hD hM)
  have HD := Lib.hid hD
  have HM := Lib.hid hM
  clear hD hM
  apply wp_seq_k
  intro K9 hK9
  have HK9 := Lib.hid hK9
  clear hK9
  refine wp_drawn (R := fun W W' => Below W.heap.size W W') 22 [.val (.pointer (some ⟨w.heap.size, 0, none⟩)), .val (.agg #[.int .i64 n0, .int .i64 n1]), .val (.pointer (some ⟨w.heap.size, 2, none⟩)), .val (.agg #[.int .i64 k0, .int .i64 k1]), .val (.pointer (some ⟨w.heap.size, 4, none⟩)), .val (.agg #[.int .i64 s0, .int .i64 s1]), .val (.pointer (some ⟨w.heap.size, 6, none⟩)), .val (.agg #[.int .i64 p0, .int .i64 p1, .int .i64 p2, .int .i64 p3]), .val (.int .i64 (m : Int)), .val (.pointer (some ⟨g, 1, none⟩)), .val (.int .i64 (outV n1 k1 s1 p1 p3)), .val (.int .i64 ((m : Int) / (outV n1 k1 s1 p1 p3))), .val (.int .i64 (m : Int)), .val (.pointer (some ⟨g, 1, none⟩)), .val (.int .i64 (outV n1 k1 s1 p1 p3)), .val (.int .i64 ((m : Int) % (outV n1 k1 s1 p1 p3))), ⟨fun v _ => ∃ a c, v = .tuple #[.slice a (tapsL n0 n1 k1 s0 s1 p0 p1 ((m : Int) / (outV n1 k1 s1 p1 p3)) ((m : Int) % (outV n1 k1 s1 p1 p3)) (k0 * k1).toNat).length c, .bool true], fun _ _ _ h _ => h⟩, ⟨fun v _ => ∃ a c, v = .tuple #[.slice a (tapsL n0 n1 k1 s0 s1 p0 p1 ((m : Int) / (outV n1 k1 s1 p1 p3)) ((m : Int) % (outV n1 k1 s1 p1 p3)) (k0 * k1).toNat).length c, .bool true], fun _ _ _ h _ => h⟩, ⟨fun v _ => ∃ a c, v = .slice a (tapsL n0 n1 k1 s0 s1 p0 p1 ((m : Int) / (outV n1 k1 s1 p1 p3)) ((m : Int) % (outV n1 k1 s1 p1 p3)) (k0 * k1).toNat).length c, fun _ _ _ h _ => h⟩, .val (.bool true), ⟨fun v _ => ∃ a c, v = .slice a (tapsL n0 n1 k1 s0 s1 p0 p1 ((m : Int) / (outV n1 k1 s1 p1 p3)) ((m : Int) % (outV n1 k1 s1 p1 p3)) (k0 * k1).toNat).length c, fun _ _ _ h _ => h⟩, .val (.bool true)] (fun W => WS n0 n1 k0 k1 s0 s1 p0 p1 p2 p3 w W ∧ W.heap[g]? = some (box2 (outV n0 k0 s0 p0 p2) (outV n1 k1 s1 p1 p3))) rfl (by kernel_rfl) ⟨hG.1.drew, hG.2⟩ ?_ ?_
  · intro vs W hG b hb
    have e1 : b.eval (.tmp 1) = .pointer (some ⟨w.heap.size, 0, none⟩) := (congrArg (fun x => Act.eval x (.tmp 1)) hb).trans ((fill_out _ 0 _ (by kernel_rfl)).trans rfl)
    have e3 : b.eval (.tmp 3) = .pointer (some ⟨g, 0, none⟩) := (congrArg (fun x => Act.eval x (.tmp 3)) hb).trans ((fill_out _ 0 _ (by kernel_rfl)).trans rfl)
    have e5 : b.eval (.tmp 5) = .int .i64 (m : Int) := (congrArg (fun x => Act.eval x (.tmp 5)) hb).trans ((fill_out _ 0 _ (by kernel_rfl)).trans rfl)
    have i36 : b.eval (.tmp 36) = vs 17 := (congrArg (fun x => Act.eval x (.tmp 36)) hb).trans ((fill_in _ 0 17 _ _ 36 (by kernel_rfl) rfl rfl (by simp)).trans (congrArg vs (Nat.zero_add _)))
    have i37 : b.eval (.tmp 37) = vs 0 := (congrArg (fun x => Act.eval x (.tmp 37)) hb).trans ((fill_in _ 0 0 _ _ 37 (by kernel_rfl) rfl rfl (by simp)).trans (congrArg vs (Nat.zero_add _)))
    have i38 : b.eval (.tmp 38) = vs 1 := (congrArg (fun x => Act.eval x (.tmp 38)) hb).trans ((fill_in _ 0 1 _ _ 38 (by kernel_rfl) rfl rfl (by simp)).trans (congrArg vs (Nat.zero_add _)))
    have i39 : b.eval (.tmp 39) = vs 2 := (congrArg (fun x => Act.eval x (.tmp 39)) hb).trans ((fill_in _ 0 2 _ _ 39 (by kernel_rfl) rfl rfl (by simp)).trans (congrArg vs (Nat.zero_add _)))
    have i40 : b.eval (.tmp 40) = vs 3 := (congrArg (fun x => Act.eval x (.tmp 40)) hb).trans ((fill_in _ 0 3 _ _ 40 (by kernel_rfl) rfl rfl (by simp)).trans (congrArg vs (Nat.zero_add _)))
    have i41 : b.eval (.tmp 41) = vs 4 := (congrArg (fun x => Act.eval x (.tmp 41)) hb).trans ((fill_in _ 0 4 _ _ 41 (by kernel_rfl) rfl rfl (by simp)).trans (congrArg vs (Nat.zero_add _)))
    have i42 : b.eval (.tmp 42) = vs 5 := (congrArg (fun x => Act.eval x (.tmp 42)) hb).trans ((fill_in _ 0 5 _ _ 42 (by kernel_rfl) rfl rfl (by simp)).trans (congrArg vs (Nat.zero_add _)))
    have i43 : b.eval (.tmp 43) = vs 6 := (congrArg (fun x => Act.eval x (.tmp 43)) hb).trans ((fill_in _ 0 6 _ _ 43 (by kernel_rfl) rfl rfl (by simp)).trans (congrArg vs (Nat.zero_add _)))
    have i44 : b.eval (.tmp 44) = vs 7 := (congrArg (fun x => Act.eval x (.tmp 44)) hb).trans ((fill_in _ 0 7 _ _ 44 (by kernel_rfl) rfl rfl (by simp)).trans (congrArg vs (Nat.zero_add _)))
    have i45 : b.eval (.tmp 45) = vs 8 := (congrArg (fun x => Act.eval x (.tmp 45)) hb).trans ((fill_in _ 0 8 _ _ 45 (by kernel_rfl) rfl rfl (by simp)).trans (congrArg vs (Nat.zero_add _)))
    have i46 : b.eval (.tmp 46) = vs 9 := (congrArg (fun x => Act.eval x (.tmp 46)) hb).trans ((fill_in _ 0 9 _ _ 46 (by kernel_rfl) rfl rfl (by simp)).trans (congrArg vs (Nat.zero_add _)))
    have i47 : b.eval (.tmp 47) = vs 10 := (congrArg (fun x => Act.eval x (.tmp 47)) hb).trans ((fill_in _ 0 10 _ _ 47 (by kernel_rfl) rfl rfl (by simp)).trans (congrArg vs (Nat.zero_add _)))
    have i48 : b.eval (.tmp 48) = vs 11 := (congrArg (fun x => Act.eval x (.tmp 48)) hb).trans ((fill_in _ 0 11 _ _ 48 (by kernel_rfl) rfl rfl (by simp)).trans (congrArg vs (Nat.zero_add _)))
    have i49 : b.eval (.tmp 49) = vs 12 := (congrArg (fun x => Act.eval x (.tmp 49)) hb).trans ((fill_in _ 0 12 _ _ 49 (by kernel_rfl) rfl rfl (by simp)).trans (congrArg vs (Nat.zero_add _)))
    have i50 : b.eval (.tmp 50) = vs 13 := (congrArg (fun x => Act.eval x (.tmp 50)) hb).trans ((fill_in _ 0 13 _ _ 50 (by kernel_rfl) rfl rfl (by simp)).trans (congrArg vs (Nat.zero_add _)))
    have i51 : b.eval (.tmp 51) = vs 14 := (congrArg (fun x => Act.eval x (.tmp 51)) hb).trans ((fill_in _ 0 14 _ _ 51 (by kernel_rfl) rfl rfl (by simp)).trans (congrArg vs (Nat.zero_add _)))
    have i52 : b.eval (.tmp 52) = vs 15 := (congrArg (fun x => Act.eval x (.tmp 52)) hb).trans ((fill_in _ 0 15 _ _ 52 (by kernel_rfl) rfl rfl (by simp)).trans (congrArg vs (Nat.zero_add _)))
    have i53 : b.eval (.tmp 53) = vs 16 := (congrArg (fun x => Act.eval x (.tmp 53)) hb).trans ((fill_in _ 0 16 _ _ 53 (by kernel_rfl) rfl rfl (by simp)).trans (congrArg vs (Nat.zero_add _)))
    have i54 : b.eval (.tmp 54) = vs 18 := (congrArg (fun x => Act.eval x (.tmp 54)) hb).trans ((fill_in _ 0 18 _ _ 54 (by kernel_rfl) rfl rfl (by simp)).trans (congrArg vs (Nat.zero_add _)))
    have i55 : b.eval (.tmp 55) = vs 19 := (congrArg (fun x => Act.eval x (.tmp 55)) hb).trans ((fill_in _ 0 19 _ _ 55 (by kernel_rfl) rfl rfl (by simp)).trans (congrArg vs (Nat.zero_add _)))
    clear hb
    refine And.intro ?_ (And.intro ?_ (And.intro ?_ (And.intro ?_ (And.intro ?_ (And.intro ?_ (And.intro ?_ (And.intro ?_ (And.intro ?_ (And.intro ?_ (And.intro ?_ (And.intro ?_ (And.intro ?_ (And.intro ?_ (And.intro ?_ (And.intro ?_ (And.intro ?_ (And.intro ?_ (And.intro ?_ (And.intro ?_ (And.intro ?_ (And.intro ?_ (trivial))))))))))))))))))))))
    · intro hp K hK
      refine g_no rfl ?_
      exact st_field rfl (e1) (by kernel_rfl) (hK _ _ rfl hG (Below.refl _ _))
    · intro hp K hK
      refine g_no rfl ?_
      have e37 : b.eval (.tmp 37) = .pointer (some ⟨w.heap.size, 0, none⟩) := i37.trans (hp 0 (by kernel_rfl))
      exact st_load rfl (e37) (ldw0 hG.1.b0) (hK _ _ rfl hG (Below.refl _ _))
    · intro hp K hK
      refine g_no rfl ?_
      exact st_field rfl (e1) (by kernel_rfl) (hK _ _ rfl hG (Below.refl _ _))
    · intro hp K hK
      refine g_no rfl ?_
      have e39 : b.eval (.tmp 39) = .pointer (some ⟨w.heap.size, 2, none⟩) := i39.trans (hp 2 (by kernel_rfl))
      exact st_load rfl (e39) (ldw2 hG.1.b0) (hK _ _ rfl hG (Below.refl _ _))
    · intro hp K hK
      refine g_no rfl ?_
      exact st_field rfl (e1) (by kernel_rfl) (hK _ _ rfl hG (Below.refl _ _))
    · intro hp K hK
      refine g_no rfl ?_
      have e41 : b.eval (.tmp 41) = .pointer (some ⟨w.heap.size, 4, none⟩) := i41.trans (hp 4 (by kernel_rfl))
      exact st_load rfl (e41) (ldw4 hG.1.b0) (hK _ _ rfl hG (Below.refl _ _))
    · intro hp K hK
      refine g_no rfl ?_
      exact st_field rfl (e1) (by kernel_rfl) (hK _ _ rfl hG (Below.refl _ _))
    · intro hp K hK
      refine g_no rfl ?_
      have e43 : b.eval (.tmp 43) = .pointer (some ⟨w.heap.size, 6, none⟩) := i43.trans (hp 6 (by kernel_rfl))
      exact st_load rfl (e43) (ldw6 hG.1.b0) (hK _ _ rfl hG (Below.refl _ _))
    · intro hp K hK
      refine g_no rfl ?_
      exact st_move (.inl rfl) (e5) (hK _ _ rfl hG (Below.refl _ _))
    · intro hp K hK
      refine g_no rfl ?_
      exact st_index rfl (e3) (eval_const _) (by kernel_rfl) (hK _ _ rfl hG (Below.refl _ _))
    · intro hp K hK
      refine g_no rfl ?_
      have e46 : b.eval (.tmp 46) = .pointer (some ⟨g, 1, none⟩) := i46.trans (hp 9 (by kernel_rfl))
      exact st_load rfl (e46) (ld1 ((blk_cell hG.2 1).trans rfl)) (hK _ _ rfl hG (Below.refl _ _))
    · intro hp K hK
      refine g_no rfl ?_
      have e45 : b.eval (.tmp 45) = .int .i64 (m : Int) := i45.trans (hp 8 (by kernel_rfl))
      have e47 : b.eval (.tmp 47) = .int .i64 (outV n1 k1 s1 p1 p3) := i47.trans (hp 10 (by kernel_rfl))
      have HO_ := HO.out
      have HO1_ := HO1.out
      exact st_bin rfl (e45) (e47) (b_quo (by omega) (IntWalk.i64_quo _ _ ⟨by omega, by omega, by omega⟩)) (hK _ _ rfl hG (Below.refl _ _))
    · intro hp K hK
      refine g_no rfl ?_
      exact st_move (.inl rfl) (e5) (hK _ _ rfl hG (Below.refl _ _))
    · intro hp K hK
      refine g_no rfl ?_
      exact st_index rfl (e3) (eval_const _) (by kernel_rfl) (hK _ _ rfl hG (Below.refl _ _))
    · intro hp K hK
      refine g_no rfl ?_
      have e50 : b.eval (.tmp 50) = .pointer (some ⟨g, 1, none⟩) := i50.trans (hp 13 (by kernel_rfl))
      exact st_load rfl (e50) (ld1 ((blk_cell hG.2 1).trans rfl)) (hK _ _ rfl hG (Below.refl _ _))
    · intro hp K hK
      refine g_no rfl ?_
      have e49 : b.eval (.tmp 49) = .int .i64 (m : Int) := i49.trans (hp 12 (by kernel_rfl))
      have e51 : b.eval (.tmp 51) = .int .i64 (outV n1 k1 s1 p1 p3) := i51.trans (hp 14 (by kernel_rfl))
      have HO_ := HO.out
      have HO1_ := HO1.out
      exact st_bin rfl (e49) (e51) (b_rem (by omega) (Int.tmod_eq_emod_of_nonneg (by omega))) (hK _ _ rfl hG (Below.refl _ _))
    · intro hp K hK
      refine g_no rfl ?_
      have e38 : b.eval (.tmp 38) = .agg #[.int .i64 n0, .int .i64 n1] := i38.trans (hp 1 (by kernel_rfl))
      have e40 : b.eval (.tmp 40) = .agg #[.int .i64 k0, .int .i64 k1] := i40.trans (hp 3 (by kernel_rfl))
      have e42 : b.eval (.tmp 42) = .agg #[.int .i64 s0, .int .i64 s1] := i42.trans (hp 5 (by kernel_rfl))
      have e44 : b.eval (.tmp 44) = .agg #[.int .i64 p0, .int .i64 p1, .int .i64 p2, .int .i64 p3] := i44.trans (hp 7 (by kernel_rfl))
      have e48 : b.eval (.tmp 48) = .int .i64 ((m : Int) / (outV n1 k1 s1 p1 p3)) := i48.trans (hp 11 (by kernel_rfl))
      have e52 : b.eval (.tmp 52) = .int .i64 ((m : Int) % (outV n1 k1 s1 p1 p3)) := i52.trans (hp 15 (by kernel_rfl))
      refine st_call rfl (by first | (simp only [List.map_toArray, List.map_cons, List.map_nil, eval_const, e38, e40, e42, e44, e48, e52]; done) | (simp only [List.map_toArray, List.map_cons, List.map_nil, eval_const, e38, e40, e42, e44, e48, e52]; rfl)) (by kernel_rfl) ?_
      refine (Taps_good n0 n1 k0 k1 s0 s1 p0 p1 p2 p3 ((m : Int) / (outV n1 k1 s1 p1 p3)) ((m : Int) % (outV n1 k1 s1 p1 p3)) _ H.out HD.out HM.out).mono ?_
      rintro e w' ⟨v, rfl, hown, hb'⟩
      obtain ⟨a_, c_, rfl⟩ := own_slice hown
      exact ⟨_, rfl, hK _ _ ⟨a_, c_, rfl⟩ ⟨hG.1.step hb', blk_below hG.2 hb'⟩ hb'⟩
    · intro hp K hK
      refine g_no rfl ?_
      have q16 : ∃ a c, (vs 16) = .tuple #[.slice a (tapsL n0 n1 k1 s0 s1 p0 p1 ((m : Int) / (outV n1 k1 s1 p1 p3)) ((m : Int) % (outV n1 k1 s1 p1 p3)) (k0 * k1).toNat).length c, .bool true] := hp 16 (by kernel_rfl)
      obtain ⟨a_, c_, hv⟩ := q16
      have e53 := i53.trans hv
      exact st_move (.inl rfl) (e53) (hK _ _ ⟨a_, c_, rfl⟩ hG (Below.refl _ _))
    · intro hp K hK
      refine g_no rfl ?_
      have q17 : ∃ a c, (vs 17) = .tuple #[.slice a (tapsL n0 n1 k1 s0 s1 p0 p1 ((m : Int) / (outV n1 k1 s1 p1 p3)) ((m : Int) % (outV n1 k1 s1 p1 p3)) (k0 * k1).toNat).length c, .bool true] := hp 17 (by kernel_rfl)
      obtain ⟨a_, c_, hv⟩ := q17
      have e36 := i36.trans hv
      exact st_extract rfl (e36) (by kernel_rfl) (hK _ _ ⟨a_, c_, rfl⟩ hG (Below.refl _ _))
    · intro hp K hK
      refine g_no rfl ?_
      have q17 : ∃ a c, (vs 17) = .tuple #[.slice a (tapsL n0 n1 k1 s0 s1 p0 p1 ((m : Int) / (outV n1 k1 s1 p1 p3)) ((m : Int) % (outV n1 k1 s1 p1 p3)) (k0 * k1).toNat).length c, .bool true] := hp 17 (by kernel_rfl)
      obtain ⟨a_, c_, hv⟩ := q17
      have e36 := i36.trans hv
      exact st_extract rfl (e36) (by kernel_rfl) (hK _ _ rfl hG (Below.refl _ _))
    · intro hp K hK
      refine g_no rfl ?_
      have q18 : ∃ a c, (vs 18) = .slice a (tapsL n0 n1 k1 s0 s1 p0 p1 ((m : Int) / (outV n1 k1 s1 p1 p3)) ((m : Int) % (outV n1 k1 s1 p1 p3)) (k0 * k1).toNat).length c := hp 18 (by kernel_rfl)
      obtain ⟨a_, c_, hv⟩ := q18
      have e54 := i54.trans hv
      exact st_move (.inr rfl) (e54) (hK _ _ ⟨a_, c_, rfl⟩ hG (Below.refl _ _))
    · intro hp K hK
      refine g_no rfl ?_
      have e55 : b.eval (.tmp 55) = .bool true := i55.trans (hp 19 (by kernel_rfl))
      exact st_move (.inr rfl) (e55) (hK _ _ rfl hG (Below.refl _ _))
  intro vs W hG hp b hb
  have q16 : ∃ a c, (vs 16) = .tuple #[.slice a (tapsL n0 n1 k1 s0 s1 p0 p1 ((m : Int) / (outV n1 k1 s1 p1 p3)) ((m : Int) % (outV n1 k1 s1 p1 p3)) (k0 * k1).toNat).length c, .bool true] := hp 16 (by decide)
  have q17 : ∃ a c, (vs 17) = .tuple #[.slice a (tapsL n0 n1 k1 s0 s1 p0 p1 ((m : Int) / (outV n1 k1 s1 p1 p3)) ((m : Int) % (outV n1 k1 s1 p1 p3)) (k0 * k1).toNat).length c, .bool true] := hp 17 (by decide)
  have q18 : ∃ a c, (vs 18) = .slice a (tapsL n0 n1 k1 s0 s1 p0 p1 ((m : Int) / (outV n1 k1 s1 p1 p3)) ((m : Int) % (outV n1 k1 s1 p1 p3)) (k0 * k1).toNat).length c := hp 18 (by decide)
  have q20 : ∃ a c, (vs 20) = .slice a (tapsL n0 n1 k1 s0 s1 p0 p1 ((m : Int) / (outV n1 k1 s1 p1 p3)) ((m : Int) % (outV n1 k1 s1 p1 p3)) (k0 * k1).toNat).length c := hp 20 (by decide)
  have q21 : vs 21 = .bool true := hp 21 (by decide)
  clear hp
  simp only [fill, Act.put, List.append_eq, List.cons_append, List.nil_append, List.take_succ_cons, List.take_zero, List.setIfInBounds_toArray, List.set_cons_succ, List.set_cons_zero, Nat.reduceAdd, Nat.zero_add, q21] at hb
  subst hb
  refine wpList_nil ?_
  clear q21
  clear q16 q17 q18
  obtain ⟨a_, c_, hv⟩ := q20
  rw [hv]
  clear hv
  refine HK9.out _ _ ?_
  clear HK9
  apply wp_seq_k
  intro K10 hK10
  have HK10 := Lib.hid hK10
  clear hK10
  refine wp_listed (R := fun W W' => Below W.heap.size W W') 7 [.val (.slice a_ (tapsL n0 n1 k1 s0 s1 p0 p1 ((m : Int) / (outV n1 k1 s1 p1 p3)) ((m : Int) % (outV n1 k1 s1 p1 p3)) (k0 * k1).toNat).length c_), .val (.int .i64 ((tapsL n0 n1 k1 s0 s1 p0 p1 ((m : Int) / (outV n1 k1 s1 p1 p3)) ((m : Int) % (outV n1 k1 s1 p1 p3)) (k0 * k1).toNat).length : Int)), .val (.bool false), .val (.bool false), .val ((bif ((false) == false) then (.bool true) else undef)), .val ((bif ((false) == false) then (.bool (!true)) else undef)), .val (.bool false)] (fun W => WS n0 n1 k0 k1 s0 s1 p0 p1 p2 p3 w W ∧ W.heap[g]? = some (box2 (outV n0 k0 s0 p0 p2) (outV n1 k1 s1 p1 p3))) (by kernel_rfl) hG ?_ ?_
  · intro vs W hG b hb
    have e6 : b.eval (.tmp 6) = .slice a_ (tapsL n0 n1 k1 s0 s1 p0 p1 ((m : Int) / (outV n1 k1 s1 p1 p3)) ((m : Int) % (outV n1 k1 s1 p1 p3)) (k0 * k1).toNat).length c_ := (congrArg (fun x => Act.eval x (.tmp 6)) hb).trans ((fill_out _ 0 _ (by kernel_rfl)).trans rfl)
    have e7 : b.eval (.tmp 7) = .bool true := (congrArg (fun x => Act.eval x (.tmp 7)) hb).trans ((fill_out _ 0 _ (by kernel_rfl)).trans rfl)
    have i56 : b.eval (.tmp 56) = vs 0 := (congrArg (fun x => Act.eval x (.tmp 56)) hb).trans ((fill_in _ 0 0 _ _ 56 (by kernel_rfl) rfl rfl (by simp)).trans (congrArg vs (Nat.zero_add _)))
    have i57 : b.eval (.tmp 57) = vs 1 := (congrArg (fun x => Act.eval x (.tmp 57)) hb).trans ((fill_in _ 0 1 _ _ 57 (by kernel_rfl) rfl rfl (by simp)).trans (congrArg vs (Nat.zero_add _)))
    have i58 : b.eval (.tmp 58) = vs 2 := (congrArg (fun x => Act.eval x (.tmp 58)) hb).trans ((fill_in _ 0 2 _ _ 58 (by kernel_rfl) rfl rfl (by simp)).trans (congrArg vs (Nat.zero_add _)))
    have i59 : b.eval (.tmp 59) = vs 3 := (congrArg (fun x => Act.eval x (.tmp 59)) hb).trans ((fill_in _ 0 3 _ _ 59 (by kernel_rfl) rfl rfl (by simp)).trans (congrArg vs (Nat.zero_add _)))
    have i60 : b.eval (.tmp 60) = vs 4 := (congrArg (fun x => Act.eval x (.tmp 60)) hb).trans ((fill_in _ 0 4 _ _ 60 (by kernel_rfl) rfl rfl (by simp)).trans (congrArg vs (Nat.zero_add _)))
    have i61 : b.eval (.tmp 61) = vs 5 := (congrArg (fun x => Act.eval x (.tmp 61)) hb).trans ((fill_in _ 0 5 _ _ 61 (by kernel_rfl) rfl rfl (by simp)).trans (congrArg vs (Nat.zero_add _)))
    clear hb
    refine And.intro ?_ (And.intro ?_ (And.intro ?_ (And.intro ?_ (And.intro ?_ (And.intro ?_ (And.intro ?_ (trivial)))))))
    · intro hp K hK
      refine g_no rfl ?_
      exact st_move (.inl rfl) (e6) (hK _ _ rfl hG (Below.refl _ _))
    · intro hp K hK
      refine g_no rfl ?_
      have e56 : b.eval (.tmp 56) = .slice a_ (tapsL n0 n1 k1 s0 s1 p0 p1 ((m : Int) / (outV n1 k1 s1 p1 p3)) ((m : Int) % (outV n1 k1 s1 p1 p3)) (k0 * k1).toNat).length c_ := i56.trans (hp 0 (by kernel_rfl))
      exact st_builtin rfl (by first | (simp only [List.map_toArray, List.map_cons, List.map_nil, eval_const, e56]; done) | (simp only [List.map_toArray, List.map_cons, List.map_nil, eval_const, e56]; rfl)) (fun cs => b_len cs _) (hK _ _ rfl hG (Below.refl _ _))
    · intro hp K hK
      refine g_no rfl ?_
      have e57 : b.eval (.tmp 57) = .int .i64 ((tapsL n0 n1 k1 s0 s1 p0 p1 ((m : Int) / (outV n1 k1 s1 p1 p3)) ((m : Int) % (outV n1 k1 s1 p1 p3)) (k0 * k1).toNat).length : Int) := i57.trans (hp 1 (by kernel_rfl))
      exact st_bin rfl (e57) (eval_const _) (b_eql.trans (by rw [beq_eq_false_iff_ne.2 (by have := HP.out; omega)])) (hK _ _ rfl hG (Below.refl _ _))
    · intro hp K hK
      refine g_no rfl ?_
      have e58 : b.eval (.tmp 58) = .bool false := i58.trans (hp 2 (by kernel_rfl))
      exact st_move (.inl rfl) (e58) (hK _ _ rfl hG (Below.refl _ _))
    · intro hp K hK
      refine g_is (j := 3) (want := false) (c := false) rfl (yielded_of (d := 59) rfl rfl (i59.trans (hp 3 (by kernel_rfl)))) (fun hb => ?_) (fun hb => hK _ _ (cond_no hb) hG (Below.refl _ _))
      exact st_move (.inl rfl) (e7) (hK _ _ (cond_yes hb).symm hG (Below.refl _ _))
    · intro hp K hK
      refine g_is (j := 3) (want := false) (c := false) rfl (yielded_of (d := 59) rfl rfl (i59.trans (hp 3 (by kernel_rfl)))) (fun hb => ?_) (fun hb => hK _ _ (cond_no hb) hG (Below.refl _ _))
      have e60 : b.eval (.tmp 60) = (bif ((false) == false) then (.bool true) else undef) := i60.trans (hp 4 (by kernel_rfl))
      replace e60 := e60.trans (cond_yes hb)
      exact st_un rfl (e60) u_not (hK _ _ (cond_yes hb).symm hG (Below.refl _ _))
    · intro hp K hK
      refine g_no rfl ?_
      have e59 : b.eval (.tmp 59) = .bool false := i59.trans (hp 3 (by kernel_rfl))
      have e61 : b.eval (.tmp 61) = (bif ((false) == false) then (.bool (!true)) else undef) := i61.trans (hp 5 (by kernel_rfl))
      exact st_pick rfl (e59) (by first | (rw [e61]; exact (pick_or.trans (by rfl))) | (rw [show b.eval (Operand.tmp 61) = _ from eval_const _]; exact (pick_or.trans (by rfl)))) (hK _ _ rfl hG (Below.refl _ _))
  intro vs W hG hp b hb
  have q6 : vs 6 = .bool false := hp 6 (by decide)
  clear hp
  simp only [fill, Act.put, List.append_eq, List.cons_append, List.nil_append, List.take_succ_cons, List.take_zero, List.setIfInBounds_toArray, List.set_cons_succ, List.set_cons_zero, Nat.reduceAdd, Nat.zero_add, q6] at hb
  subst hb
  refine wpList_nil ?_
  clear q6
  refine HK10.out _ _ ?_
  clear HK10
  apply wp_cond_false rfl
  apply wp_skip
  simp only [Exit.inBlock, Exit.then]
  refine HK8.out _ _ ?_
  clear HK8
  have hl : IntKind.i64.wrap ((m : Int) + 1) = (m : Int) + 1 := IntWalk.i64_in _ (by have := HO.out; omega)
  have hG := Lib.hid hG
  have hlt := Lib.hid hlt
  go_wp2
  refine ⟨loop_frame (by kernel_rfl), ⟨m + 1, by show Value.int .i64 _ = _; simp, by have := hlt.out; omega, hG.out⟩, ?_⟩
  exact Msr.lt hlt.out
set_option maxHeartbeats 8000000 in
theorem never_bad (n0 n1 k0 k1 s0 s1 p0 p1 p2 p3 : Int) (w : World) (h : goodV n0 n1 k0 k1 s0 s1 p0 p1 p2 p3 = false) : Calls Try.prog 10 #[.agg #[.int .i64 n0, .int .i64 n1, .int .i64 k0, .int .i64 k1, .int .i64 s0, .int .i64 s1, .int .i64 p0, .int .i64 p1, .int .i64 p2, .int .i64 p3]] w (fun e w' => e = .returned (.bool true) ∧ Below w.heap.size w w') := by
  have H := Lib.hid h
  clear h
  have J := Lib.hid (WS.start n0 n1 k0 k1 s0 s1 p0 p1 p2 p3 w)
  go_enter Try.func10, Try.ntmps10
  apply wp_seq_k
  intro K1 hK1
  have HK1 := Lib.hid hK1
  clear hK1
  go_wp2
  refine HK1.out _ _ ?_
  clear HK1
  generalize w.alloc (win n0 n1 k0 k1 s0 s1 p0 p1 p2 p3) = u0 at *
  replace J := J.out
  apply wp_seq_k
  intro K2 hK2
  have HK2 := Lib.hid hK2
  clear hK2
  refine wp_listed (R := fun W W' => Below W.heap.size W W') 13 [.val (.pointer (some ⟨w.heap.size, 0, none⟩)), .val (.agg #[.int .i64 n0, .int .i64 n1]), .val (.pointer (some ⟨w.heap.size, 2, none⟩)), .val (.agg #[.int .i64 k0, .int .i64 k1]), .val (.pointer (some ⟨w.heap.size, 4, none⟩)), .val (.agg #[.int .i64 s0, .int .i64 s1]), .val (.pointer (some ⟨w.heap.size, 6, none⟩)), .val (.agg #[.int .i64 p0, .int .i64 p1, .int .i64 p2, .int .i64 p3]), .val (.tuple #[.agg #[.int .i64 0, .int .i64 0], .bool false]), .val (.tuple #[.agg #[.int .i64 0, .int .i64 0], .bool false]), .val (.agg #[.int .i64 0, .int .i64 0]), .val (.bool false), newSpec (box2 0 0) (w.heap.size + 1)] (fun W => WS n0 n1 k0 k1 s0 s1 p0 p1 p2 p3 w W) (by kernel_rfl) J ?_ ?_
  · intro vs W hG b hb
    have e1 : b.eval (.tmp 1) = .pointer (some ⟨w.heap.size, 0, none⟩) := (congrArg (fun x => Act.eval x (.tmp 1)) hb).trans ((fill_out _ 0 _ (by kernel_rfl)).trans rfl)
    have i8 : b.eval (.tmp 8) = vs 9 := (congrArg (fun x => Act.eval x (.tmp 8)) hb).trans ((fill_in _ 0 9 _ _ 8 (by kernel_rfl) rfl rfl (by simp)).trans (congrArg vs (Nat.zero_add _)))
    have i9 : b.eval (.tmp 9) = vs 0 := (congrArg (fun x => Act.eval x (.tmp 9)) hb).trans ((fill_in _ 0 0 _ _ 9 (by kernel_rfl) rfl rfl (by simp)).trans (congrArg vs (Nat.zero_add _)))
    have i10 : b.eval (.tmp 10) = vs 1 := (congrArg (fun x => Act.eval x (.tmp 10)) hb).trans ((fill_in _ 0 1 _ _ 10 (by kernel_rfl) rfl rfl (by simp)).trans (congrArg vs (Nat.zero_add _)))
    have i11 : b.eval (.tmp 11) = vs 2 := (congrArg (fun x => Act.eval x (.tmp 11)) hb).trans ((fill_in _ 0 2 _ _ 11 (by kernel_rfl) rfl rfl (by simp)).trans (congrArg vs (Nat.zero_add _)))
    have i12 : b.eval (.tmp 12) = vs 3 := (congrArg (fun x => Act.eval x (.tmp 12)) hb).trans ((fill_in _ 0 3 _ _ 12 (by kernel_rfl) rfl rfl (by simp)).trans (congrArg vs (Nat.zero_add _)))
    have i13 : b.eval (.tmp 13) = vs 4 := (congrArg (fun x => Act.eval x (.tmp 13)) hb).trans ((fill_in _ 0 4 _ _ 13 (by kernel_rfl) rfl rfl (by simp)).trans (congrArg vs (Nat.zero_add _)))
    have i14 : b.eval (.tmp 14) = vs 5 := (congrArg (fun x => Act.eval x (.tmp 14)) hb).trans ((fill_in _ 0 5 _ _ 14 (by kernel_rfl) rfl rfl (by simp)).trans (congrArg vs (Nat.zero_add _)))
    have i15 : b.eval (.tmp 15) = vs 6 := (congrArg (fun x => Act.eval x (.tmp 15)) hb).trans ((fill_in _ 0 6 _ _ 15 (by kernel_rfl) rfl rfl (by simp)).trans (congrArg vs (Nat.zero_add _)))
    have i16 : b.eval (.tmp 16) = vs 7 := (congrArg (fun x => Act.eval x (.tmp 16)) hb).trans ((fill_in _ 0 7 _ _ 16 (by kernel_rfl) rfl rfl (by simp)).trans (congrArg vs (Nat.zero_add _)))
    have i17 : b.eval (.tmp 17) = vs 8 := (congrArg (fun x => Act.eval x (.tmp 17)) hb).trans ((fill_in _ 0 8 _ _ 17 (by kernel_rfl) rfl rfl (by simp)).trans (congrArg vs (Nat.zero_add _)))
    clear hb
    refine And.intro ?_ (And.intro ?_ (And.intro ?_ (And.intro ?_ (And.intro ?_ (And.intro ?_ (And.intro ?_ (And.intro ?_ (And.intro ?_ (And.intro ?_ (And.intro ?_ (And.intro ?_ (And.intro ?_ (trivial)))))))))))))
    · intro hp K hK
      refine g_no rfl ?_
      exact st_field rfl (e1) (by kernel_rfl) (hK _ _ rfl hG (Below.refl _ _))
    · intro hp K hK
      refine g_no rfl ?_
      have e9 : b.eval (.tmp 9) = .pointer (some ⟨w.heap.size, 0, none⟩) := i9.trans (hp 0 (by kernel_rfl))
      exact st_load rfl (e9) (ldw0 hG.b0) (hK _ _ rfl hG (Below.refl _ _))
    · intro hp K hK
      refine g_no rfl ?_
      exact st_field rfl (e1) (by kernel_rfl) (hK _ _ rfl hG (Below.refl _ _))
    · intro hp K hK
      refine g_no rfl ?_
      have e11 : b.eval (.tmp 11) = .pointer (some ⟨w.heap.size, 2, none⟩) := i11.trans (hp 2 (by kernel_rfl))
      exact st_load rfl (e11) (ldw2 hG.b0) (hK _ _ rfl hG (Below.refl _ _))
    · intro hp K hK
      refine g_no rfl ?_
      exact st_field rfl (e1) (by kernel_rfl) (hK _ _ rfl hG (Below.refl _ _))
    · intro hp K hK
      refine g_no rfl ?_
      have e13 : b.eval (.tmp 13) = .pointer (some ⟨w.heap.size, 4, none⟩) := i13.trans (hp 4 (by kernel_rfl))
      exact st_load rfl (e13) (ldw4 hG.b0) (hK _ _ rfl hG (Below.refl _ _))
    · intro hp K hK
      refine g_no rfl ?_
      exact st_field rfl (e1) (by kernel_rfl) (hK _ _ rfl hG (Below.refl _ _))
    · intro hp K hK
      refine g_no rfl ?_
      have e15 : b.eval (.tmp 15) = .pointer (some ⟨w.heap.size, 6, none⟩) := i15.trans (hp 6 (by kernel_rfl))
      exact st_load rfl (e15) (ldw6 hG.b0) (hK _ _ rfl hG (Below.refl _ _))
    · intro hp K hK
      refine g_no rfl ?_
      have e10 : b.eval (.tmp 10) = .agg #[.int .i64 n0, .int .i64 n1] := i10.trans (hp 1 (by kernel_rfl))
      have e12 : b.eval (.tmp 12) = .agg #[.int .i64 k0, .int .i64 k1] := i12.trans (hp 3 (by kernel_rfl))
      have e14 : b.eval (.tmp 14) = .agg #[.int .i64 s0, .int .i64 s1] := i14.trans (hp 5 (by kernel_rfl))
      have e16 : b.eval (.tmp 16) = .agg #[.int .i64 p0, .int .i64 p1, .int .i64 p2, .int .i64 p3] := i16.trans (hp 7 (by kernel_rfl))
      refine st_call rfl (by first | (simp only [List.map_toArray, List.map_cons, List.map_nil, eval_const, e10, e12, e14, e16]; done) | (simp only [List.map_toArray, List.map_cons, List.map_nil, eval_const, e10, e12, e14, e16]; rfl)) (by kernel_rfl) ?_
      refine (Out_bad n0 n1 k0 k1 s0 s1 p0 p1 p2 p3 _ H.out).mono ?_
      rintro e w' ⟨rfl, hb'⟩
      exact ⟨_, rfl, hK _ _ rfl (hG.step hb') hb'⟩
    · intro hp K hK
      refine g_no rfl ?_
      have e17 : b.eval (.tmp 17) = .tuple #[.agg #[.int .i64 0, .int .i64 0], .bool false] := i17.trans (hp 8 (by kernel_rfl))
      exact st_move (.inl rfl) (e17) (hK _ _ rfl hG (Below.refl _ _))
    · intro hp K hK
      refine g_no rfl ?_
      have e8 : b.eval (.tmp 8) = .tuple #[.agg #[.int .i64 0, .int .i64 0], .bool false] := i8.trans (hp 9 (by kernel_rfl))
      exact st_extract rfl (e8) (by kernel_rfl) (hK _ _ rfl hG (Below.refl _ _))
    · intro hp K hK
      refine g_no rfl ?_
      have e8 : b.eval (.tmp 8) = .tuple #[.agg #[.int .i64 0, .int .i64 0], .bool false] := i8.trans (hp 9 (by kernel_rfl))
      exact st_extract rfl (e8) (by kernel_rfl) (hK _ _ rfl hG (Below.refl _ _))
    · intro hp K hK
      refine g_no rfl ?_
      exact st_alloc rfl (new2 _) (hK _ _ ⟨_, rfl, blk_new _ _, hG.size⟩ (hG.alloc _) ((Below.refl _ _).alloc (Nat.le_refl _) _))
  intro vs W hG hp b hb
  have q0 : vs 0 = .pointer (some ⟨w.heap.size, 0, none⟩) := hp 0 (by decide)
  have q1 : vs 1 = .agg #[.int .i64 n0, .int .i64 n1] := hp 1 (by decide)
  have q2 : vs 2 = .pointer (some ⟨w.heap.size, 2, none⟩) := hp 2 (by decide)
  have q3 : vs 3 = .agg #[.int .i64 k0, .int .i64 k1] := hp 3 (by decide)
  have q4 : vs 4 = .pointer (some ⟨w.heap.size, 4, none⟩) := hp 4 (by decide)
  have q5 : vs 5 = .agg #[.int .i64 s0, .int .i64 s1] := hp 5 (by decide)
  have q6 : vs 6 = .pointer (some ⟨w.heap.size, 6, none⟩) := hp 6 (by decide)
  have q7 : vs 7 = .agg #[.int .i64 p0, .int .i64 p1, .int .i64 p2, .int .i64 p3] := hp 7 (by decide)
  have q8 : vs 8 = .tuple #[.agg #[.int .i64 0, .int .i64 0], .bool false] := hp 8 (by decide)
  have q9 : vs 9 = .tuple #[.agg #[.int .i64 0, .int .i64 0], .bool false] := hp 9 (by decide)
  have q10 : vs 10 = .agg #[.int .i64 0, .int .i64 0] := hp 10 (by decide)
  have q11 : vs 11 = .bool false := hp 11 (by decide)
  have q12 : ∃ gg, (vs 12) = .pointer (some ⟨gg, 0, none⟩) ∧ W.heap[gg]? = some (box2 0 0) ∧ w.heap.size + 1 ≤ gg := hp 12 (by decide)
  clear hp
  simp only [fill, Act.put, List.append_eq, List.cons_append, List.nil_append, List.take_succ_cons, List.take_zero, List.setIfInBounds_toArray, List.set_cons_succ, List.set_cons_zero, Nat.reduceAdd, Nat.zero_add, q0, q1, q2, q3, q4, q5, q6, q7, q8, q9, q10, q11] at hb
  subst hb
  simp only [List.append_eq, List.cons_append, List.nil_append, List.drop_succ_cons, List.drop_zero]
  clear q0 q1 q2 q3 q4 q5 q6 q7 q8 q9 q10 q11
  obtain ⟨g, hv, A, hg⟩ := q12
  rw [hv]
  clear hv J
  have z0 : _ = some (Value.int .i64 0) := (blk_cell A 0).trans rfl
  have y0 := blk_frozen A 0
  have z1 : _ = some (Value.int .i64 0) := (blk_cell A 1).trans rfl
  have y1 := blk_frozen A 1
  have hJ := Lib.hid hG
  clear hG
  go_wp2
  replace hJ := hJ.out
  have hG := ((hJ.set hg 0 (.int .i64 0)).set hg 1 (.int .i64 0))
  have hA : (((W.setCell ⟨g, 0, none⟩ (.int .i64 0)).setCell ⟨g, 1, none⟩ (.int .i64 0))).heap[g]? = some (box2 0 0) := (blk_put (blk_put A 0 _ rfl) 1 _ rfl)
  generalize (W.setCell ⟨g, 0, none⟩ (.int .i64 0)).setCell ⟨g, 1, none⟩ (.int .i64 0) = V at *
  clear hJ A z0 z1 y0 y1
  refine HK2.out _ _ ?_
  clear HK2
  have hG := And.intro hG hA
  clear hA
  apply wp_seq_k
  intro K3 hK3
  have HK3 := Lib.hid hK3
  clear hK3
  apply wp_seq_k
  intro K4 hK4
  have HK4 := Lib.hid hK4
  clear hK4
  have hJ := Lib.hid hG
  clear hG
  go_wp2
  replace hJ := hJ.out
  refine HK4.out _ _ ?_
  clear HK4
  apply wp_block
  refine wp_loop_rounds 1 ?_
  rw [rounds_succ]
  have hG := hJ
  clear hJ
  apply wp_seq_k
  intro K5 hK5
  have HK5 := Lib.hid hK5
  clear hK5
  apply wp_seq_k
  intro K6 hK6
  have HK6 := Lib.hid hK6
  clear hK6
  refine wp_listed (R := fun W W' => Below W.heap.size W W') 14 [.val (.bool false), .val (.bool false), .val ((bif ((false) == true) then (undef) else undef)), .val ((bif ((false) == true) then (undef) else undef)), .val ((bif ((false) == true) then (undef) else undef)), .val ((bif ((false) == true) then (undef) else undef)), .val ((bif ((false) == true) then (undef) else undef)), .val ((bif ((false) == true) then (undef) else undef)), .val ((bif ((false) == true) then (undef) else undef)), .val (.bool false), .val (.bool false), .val ((bif ((false) == true) then (undef) else undef)), .val ((bif ((false) == true) then (undef) else undef)), .val (.bool false)] (fun W => WS n0 n1 k0 k1 s0 s1 p0 p1 p2 p3 w W ∧ W.heap[g]? = some (box2 0 0)) (by kernel_rfl) hG ?_ ?_
  · intro vs W hG b hb
    have e3 : b.eval (.tmp 3) = .pointer (some ⟨g, 0, none⟩) := (congrArg (fun x => Act.eval x (.tmp 3)) hb).trans ((fill_out _ 0 _ (by kernel_rfl)).trans rfl)
    have e4 : b.eval (.tmp 4) = .bool false := (congrArg (fun x => Act.eval x (.tmp 4)) hb).trans ((fill_out _ 0 _ (by kernel_rfl)).trans rfl)
    have e5 : b.eval (.tmp 5) = .int .i64 0 := (congrArg (fun x => Act.eval x (.tmp 5)) hb).trans ((fill_out _ 0 _ (by kernel_rfl)).trans rfl)
    have i20 : b.eval (.tmp 20) = vs 0 := (congrArg (fun x => Act.eval x (.tmp 20)) hb).trans ((fill_in _ 0 0 _ _ 20 (by kernel_rfl) rfl rfl (by simp)).trans (congrArg vs (Nat.zero_add _)))
    have i21 : b.eval (.tmp 21) = vs 1 := (congrArg (fun x => Act.eval x (.tmp 21)) hb).trans ((fill_in _ 0 1 _ _ 21 (by kernel_rfl) rfl rfl (by simp)).trans (congrArg vs (Nat.zero_add _)))
    have i22 : b.eval (.tmp 22) = vs 2 := (congrArg (fun x => Act.eval x (.tmp 22)) hb).trans ((fill_in _ 0 2 _ _ 22 (by kernel_rfl) rfl rfl (by simp)).trans (congrArg vs (Nat.zero_add _)))
    have i23 : b.eval (.tmp 23) = vs 3 := (congrArg (fun x => Act.eval x (.tmp 23)) hb).trans ((fill_in _ 0 3 _ _ 23 (by kernel_rfl) rfl rfl (by simp)).trans (congrArg vs (Nat.zero_add _)))
    have i24 : b.eval (.tmp 24) = vs 4 := (congrArg (fun x => Act.eval x (.tmp 24)) hb).trans ((fill_in _ 0 4 _ _ 24 (by kernel_rfl) rfl rfl (by simp)).trans (congrArg vs (Nat.zero_add _)))
    have i25 : b.eval (.tmp 25) = vs 5 := (congrArg (fun x => Act.eval x (.tmp 25)) hb).trans ((fill_in _ 0 5 _ _ 25 (by kernel_rfl) rfl rfl (by simp)).trans (congrArg vs (Nat.zero_add _)))
    have i26 : b.eval (.tmp 26) = vs 6 := (congrArg (fun x => Act.eval x (.tmp 26)) hb).trans ((fill_in _ 0 6 _ _ 26 (by kernel_rfl) rfl rfl (by simp)).trans (congrArg vs (Nat.zero_add _)))
    have i27 : b.eval (.tmp 27) = vs 7 := (congrArg (fun x => Act.eval x (.tmp 27)) hb).trans ((fill_in _ 0 7 _ _ 27 (by kernel_rfl) rfl rfl (by simp)).trans (congrArg vs (Nat.zero_add _)))
    have i28 : b.eval (.tmp 28) = vs 8 := (congrArg (fun x => Act.eval x (.tmp 28)) hb).trans ((fill_in _ 0 8 _ _ 28 (by kernel_rfl) rfl rfl (by simp)).trans (congrArg vs (Nat.zero_add _)))
    have i29 : b.eval (.tmp 29) = vs 9 := (congrArg (fun x => Act.eval x (.tmp 29)) hb).trans ((fill_in _ 0 9 _ _ 29 (by kernel_rfl) rfl rfl (by simp)).trans (congrArg vs (Nat.zero_add _)))
    have i30 : b.eval (.tmp 30) = vs 10 := (congrArg (fun x => Act.eval x (.tmp 30)) hb).trans ((fill_in _ 0 10 _ _ 30 (by kernel_rfl) rfl rfl (by simp)).trans (congrArg vs (Nat.zero_add _)))
    have i31 : b.eval (.tmp 31) = vs 11 := (congrArg (fun x => Act.eval x (.tmp 31)) hb).trans ((fill_in _ 0 11 _ _ 31 (by kernel_rfl) rfl rfl (by simp)).trans (congrArg vs (Nat.zero_add _)))
    have i32 : b.eval (.tmp 32) = vs 12 := (congrArg (fun x => Act.eval x (.tmp 32)) hb).trans ((fill_in _ 0 12 _ _ 32 (by kernel_rfl) rfl rfl (by simp)).trans (congrArg vs (Nat.zero_add _)))
    clear hb
    refine And.intro ?_ (And.intro ?_ (And.intro ?_ (And.intro ?_ (And.intro ?_ (And.intro ?_ (And.intro ?_ (And.intro ?_ (And.intro ?_ (And.intro ?_ (And.intro ?_ (And.intro ?_ (And.intro ?_ (And.intro ?_ (trivial))))))))))))))
    · intro hp K hK
      refine g_no rfl ?_
      exact st_move (.inl rfl) (e4) (hK _ _ rfl hG (Below.refl _ _))
    · intro hp K hK
      refine g_no rfl ?_
      have e20 : b.eval (.tmp 20) = .bool false := i20.trans (hp 0 (by kernel_rfl))
      exact st_move (.inl rfl) (e20) (hK _ _ rfl hG (Below.refl _ _))
    · intro hp K hK
      refine g_is (j := 1) (want := true) (c := false) rfl (yielded_of (d := 21) rfl rfl (i21.trans (hp 1 (by kernel_rfl)))) (fun hb => ?_) (fun hb => hK _ _ (cond_no hb) hG (Below.refl _ _))
      exact absurd hb (by decide)
    · intro hp K hK
      refine g_is (j := 1) (want := true) (c := false) rfl (yielded_of (d := 21) rfl rfl (i21.trans (hp 1 (by kernel_rfl)))) (fun hb => ?_) (fun hb => hK _ _ (cond_no hb) hG (Below.refl _ _))
      exact absurd hb (by decide)
    · intro hp K hK
      refine g_is (j := 1) (want := true) (c := false) rfl (yielded_of (d := 21) rfl rfl (i21.trans (hp 1 (by kernel_rfl)))) (fun hb => ?_) (fun hb => hK _ _ (cond_no hb) hG (Below.refl _ _))
      exact absurd hb (by decide)
    · intro hp K hK
      refine g_is (j := 1) (want := true) (c := false) rfl (yielded_of (d := 21) rfl rfl (i21.trans (hp 1 (by kernel_rfl)))) (fun hb => ?_) (fun hb => hK _ _ (cond_no hb) hG (Below.refl _ _))
      exact absurd hb (by decide)
    · intro hp K hK
      refine g_is (j := 1) (want := true) (c := false) rfl (yielded_of (d := 21) rfl rfl (i21.trans (hp 1 (by kernel_rfl)))) (fun hb => ?_) (fun hb => hK _ _ (cond_no hb) hG (Below.refl _ _))
      exact absurd hb (by decide)
    · intro hp K hK
      refine g_is (j := 1) (want := true) (c := false) rfl (yielded_of (d := 21) rfl rfl (i21.trans (hp 1 (by kernel_rfl)))) (fun hb => ?_) (fun hb => hK _ _ (cond_no hb) hG (Below.refl _ _))
      exact absurd hb (by decide)
    · intro hp K hK
      refine g_is (j := 1) (want := true) (c := false) rfl (yielded_of (d := 21) rfl rfl (i21.trans (hp 1 (by kernel_rfl)))) (fun hb => ?_) (fun hb => hK _ _ (cond_no hb) hG (Below.refl _ _))
      exact absurd hb (by decide)
    · intro hp K hK
      refine g_no rfl ?_
      have e21 : b.eval (.tmp 21) = .bool false := i21.trans (hp 1 (by kernel_rfl))
      have e28 : b.eval (.tmp 28) = (bif ((false) == true) then (undef) else undef) := i28.trans (hp 8 (by kernel_rfl))
      exact st_pick rfl (e21) (by first | (rw [e28]; exact (by rfl)) | (rw [show b.eval ((Operand.tmp 28)) = _ from eval_const _]; exact (by rfl))) (hK _ _ rfl hG (Below.refl _ _))
    · intro hp K hK
      refine g_no rfl ?_
      have e29 : b.eval (.tmp 29) = .bool false := i29.trans (hp 9 (by kernel_rfl))
      exact st_move (.inl rfl) (e29) (hK _ _ rfl hG (Below.refl _ _))
    · intro hp K hK
      refine g_is (j := 10) (want := true) (c := false) rfl (yielded_of (d := 30) rfl rfl (i30.trans (hp 10 (by kernel_rfl)))) (fun hb => ?_) (fun hb => hK _ _ (cond_no hb) hG (Below.refl _ _))
      exact absurd hb (by decide)
    · intro hp K hK
      refine g_is (j := 10) (want := true) (c := false) rfl (yielded_of (d := 30) rfl rfl (i30.trans (hp 10 (by kernel_rfl)))) (fun hb => ?_) (fun hb => hK _ _ (cond_no hb) hG (Below.refl _ _))
      exact absurd hb (by decide)
    · intro hp K hK
      refine g_no rfl ?_
      have e30 : b.eval (.tmp 30) = .bool false := i30.trans (hp 10 (by kernel_rfl))
      have e32 : b.eval (.tmp 32) = (bif ((false) == true) then (undef) else undef) := i32.trans (hp 12 (by kernel_rfl))
      exact st_pick rfl (e30) (by first | (rw [e32]; exact (by rfl)) | (rw [show b.eval ((Operand.tmp 32)) = _ from eval_const _]; exact (by rfl))) (hK _ _ rfl hG (Below.refl _ _))
  intro vs W hG hp b hb
  have q13 : vs 13 = .bool false := hp 13 (by decide)
  clear hp
  simp only [fill, Act.put, List.append_eq, List.cons_append, List.nil_append, List.take_succ_cons, List.take_zero, List.setIfInBounds_toArray, List.set_cons_succ, List.set_cons_zero, Nat.reduceAdd, Nat.zero_add, q13] at hb
  subst hb
  refine wpList_nil ?_
  clear q13
  refine HK6.out _ _ ?_
  clear HK6
  apply wp_cond_false rfl
  apply wp_exit
  simp only [Exit.inBlock, Exit.then, ↓reduceIte]
  refine HK3.out _ _ ?_
  clear HK3
  apply wp_seq_k
  intro K7 hK7
  have HK7 := Lib.hid hK7
  clear hK7
  refine wp_listed (R := fun W W' => Below W.heap.size W W') 2 [.val (.bool true), .val (.bool true)] (fun W => WS n0 n1 k0 k1 s0 s1 p0 p1 p2 p3 w W ∧ W.heap[g]? = some (box2 0 0)) (by kernel_rfl) hG ?_ ?_
  · intro vs W hG b hb
    have i63 : b.eval (.tmp 63) = vs 0 := (congrArg (fun x => Act.eval x (.tmp 63)) hb).trans ((fill_in _ 0 0 _ _ 63 (by kernel_rfl) rfl rfl (by simp)).trans (congrArg vs (Nat.zero_add _)))
    clear hb
    refine And.intro ?_ (And.intro ?_ (trivial))
    · intro hp K hK
      refine g_no rfl ?_
      refine st_call rfl (by first | (simp only [List.map_toArray, List.map_cons, List.map_nil, eval_const]; done) | (simp only [List.map_toArray, List.map_cons, List.map_nil, eval_const]; rfl)) (by kernel_rfl) ?_
      refine (lives_is _).mono ?_
      rintro e w' ⟨rfl, hb'⟩
      exact ⟨_, rfl, hK _ _ rfl ⟨hG.1.step hb', blk_below hG.2 hb'⟩ hb'⟩
    · intro hp K hK
      refine g_no rfl ?_
      have e63 : b.eval (.tmp 63) = .bool true := i63.trans (hp 0 (by kernel_rfl))
      exact st_move (.inr rfl) (e63) (hK _ _ rfl hG (Below.refl _ _))
  intro vs W hG hp b hb
  have q1 : vs 1 = .bool true := hp 1 (by decide)
  clear hp
  simp only [fill, Act.put, List.append_eq, List.cons_append, List.nil_append, List.take_succ_cons, List.take_zero, List.setIfInBounds_toArray, List.set_cons_succ, List.set_cons_zero, Nat.reduceAdd, Nat.zero_add, q1] at hb
  subst hb
  refine wpList_nil ?_
  clear q1
  refine HK7.out _ _ ?_
  clear HK7
  have hG := Lib.hid hG
  go_wp2
  go_ret
  exact ⟨rfl, hG.out.1.bel⟩
theorem never_law (n0 n1 k0 k1 s0 s1 p0 p1 p2 p3 : Int) (w : World) : Calls Try.prog 10 #[.agg #[.int .i64 n0, .int .i64 n1, .int .i64 k0, .int .i64 k1, .int .i64 s0, .int .i64 s1, .int .i64 p0, .int .i64 p1, .int .i64 p2, .int .i64 p3]] w (fun e w' => e = .returned (.bool true) ∧ Below w.heap.size w w') := by
  cases h : goodV n0 n1 k0 k1 s0 s1 p0 p1 p2 p3
  · exact never_bad n0 n1 k0 k1 s0 s1 p0 p1 p2 p3 w h
  · exact never_good n0 n1 k0 k1 s0 s1 p0 p1 p2 p3 w h
end Go.Proofs.Ytfcimgdogkpbcaa.W
