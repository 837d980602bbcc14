/- Window: the law of the outputs for which all of the kernel lies over the input. -/
import Derived.Test.YtfcimgdogkpbcaaW13
namespace Go.Proofs.Ytfcimgdogkpbcaa.W
open Go.RowKit T1 F Dr
set_option linter.unusedVariables false
set_option linter.unusedSimpArgs false
set_option maxRecDepth 100000

theorem own_slice {W : World} {b : Nat} {e : TypeId} {z n : Nat} {v : Value} {xs : List Value} (h : W.ownsRow b e z v n xs) : ∃ a c, v = .slice a n c := by
  rcases h.2 with ⟨rfl, h0⟩ | ⟨g, cap, cur, rfl, _⟩
  · exact ⟨none, 0, by rw [h0]⟩
  · exact ⟨_, _, rfl⟩
theorem b_len {a : Option Addr} {n c : Nat} (cs : Array Bool) (W : World) : (builtin .len #[45] 3 cs #[.slice a n c]).run Try.prog W = .ok (.value (.int .i64 (n : Int))) W := by
  kernel_rfl
theorem b_neqb {x y : Operand} {a b : Bool} {W : World} (h : a = b) : (do eqGuard .neq 4 x y (.bool a) (.bool b); binOp .neq 4 (.bool a) (.bool b) : Sem Value).run Try.prog W = .ok (.bool false) W := by
  subst h
  cases a <;> kernel_rfl
theorem out_mid {n k s p q : Int} (h : (1 ≤ n ∧ n ≤ 64) ∧ (1 ≤ k ∧ k ≤ 8) ∧ (1 ≤ s ∧ s ≤ 8) ∧ (0 ≤ p ∧ p ≤ k - 1) ∧ (0 ≤ q ∧ q ≤ k - 1) ∧ k ≤ n + p + q) : 1 ≤ outV n k s p q ∧ outV n k s p q ≤ 200 := by
  have q1 : (n + p + q - k) / s ≤ n + p + q - k := Int.ediv_le_self _ (by omega)
  have q2 : 0 ≤ (n + p + q - k) / s := Int.ediv_nonneg (by omega) (by omega)
  unfold outV
  omega
set_option maxHeartbeats 8000000 in
theorem inside_good (n0 n1 k0 k1 s0 s1 p0 p1 p2 p3 : Int) (w : World) (h : goodV n0 n1 k0 k1 s0 s1 p0 p1 p2 p3 = true) : Calls Try.prog 8 #[.agg #[.int .i64 n0, .int .i64 n1, .int .i64 k0, .int .i64 k1, .int .i64 s0, .int .i64 s1, .int .i64 p0, .int .i64 p1, .int .i64 p2, .int .i64 p3]] w (fun e w' => e = .returned (.bool true) ∧ Below w.heap.size w w') := by
  have H := Lib.hid h
  clear h
  have J := Lib.hid (WS.start n0 n1 k0 k1 s0 s1 p0 p1 p2 p3 w)
  go_enter Try.func8, Try.ntmps8
  apply wp_seq_k
  intro K1 hK1
  have HK1 := Lib.hid hK1
  clear hK1
  go_wp2
  refine HK1.out _ _ ?_
  clear HK1
  generalize w.alloc (win n0 n1 k0 k1 s0 s1 p0 p1 p2 p3) = u0 at *
  replace J := J.out
  apply wp_seq_k
  intro K2 hK2
  have HK2 := Lib.hid hK2
  clear hK2
  refine wp_listed (R := fun W W' => Below W.heap.size W W') 13 [.val (.pointer (some ⟨w.heap.size, 0, none⟩)), .val (.agg #[.int .i64 n0, .int .i64 n1]), .val (.pointer (some ⟨w.heap.size, 2, none⟩)), .val (.agg #[.int .i64 k0, .int .i64 k1]), .val (.pointer (some ⟨w.heap.size, 4, none⟩)), .val (.agg #[.int .i64 s0, .int .i64 s1]), .val (.pointer (some ⟨w.heap.size, 6, none⟩)), .val (.agg #[.int .i64 p0, .int .i64 p1, .int .i64 p2, .int .i64 p3]), .val (.tuple #[.agg #[.int .i64 (insV n0 n1 k0 k1 s0 s1 p0 p1 p2 p3 0), .int .i64 (insV n0 n1 k0 k1 s0 s1 p0 p1 p2 p3 1), .int .i64 (insV n0 n1 k0 k1 s0 s1 p0 p1 p2 p3 2), .int .i64 (insV n0 n1 k0 k1 s0 s1 p0 p1 p2 p3 3)], .bool true]), .val (.tuple #[.agg #[.int .i64 (insV n0 n1 k0 k1 s0 s1 p0 p1 p2 p3 0), .int .i64 (insV n0 n1 k0 k1 s0 s1 p0 p1 p2 p3 1), .int .i64 (insV n0 n1 k0 k1 s0 s1 p0 p1 p2 p3 2), .int .i64 (insV n0 n1 k0 k1 s0 s1 p0 p1 p2 p3 3)], .bool true]), .val (.agg #[.int .i64 (insV n0 n1 k0 k1 s0 s1 p0 p1 p2 p3 0), .int .i64 (insV n0 n1 k0 k1 s0 s1 p0 p1 p2 p3 1), .int .i64 (insV n0 n1 k0 k1 s0 s1 p0 p1 p2 p3 2), .int .i64 (insV n0 n1 k0 k1 s0 s1 p0 p1 p2 p3 3)]), .val (.bool true), newSpec (box4 0 0 0 0) (w.heap.size + 1)] (fun W => WS n0 n1 k0 k1 s0 s1 p0 p1 p2 p3 w W) (by kernel_rfl) J ?_ ?_
  · intro vs W hG b hb
    have e1 : b.eval (.tmp 1) = .pointer (some ⟨w.heap.size, 0, none⟩) := (congrArg (fun x => Act.eval x (.tmp 1)) hb).trans ((fill_out _ 0 _ (by kernel_rfl)).trans rfl)
    have i10 : b.eval (.tmp 10) = vs 9 := (congrArg (fun x => Act.eval x (.tmp 10)) hb).trans ((fill_in _ 0 9 _ _ 10 (by kernel_rfl) rfl rfl (by simp)).trans (congrArg vs (Nat.zero_add _)))
    have i11 : b.eval (.tmp 11) = vs 0 := (congrArg (fun x => Act.eval x (.tmp 11)) hb).trans ((fill_in _ 0 0 _ _ 11 (by kernel_rfl) rfl rfl (by simp)).trans (congrArg vs (Nat.zero_add _)))
    have i12 : b.eval (.tmp 12) = vs 1 := (congrArg (fun x => Act.eval x (.tmp 12)) hb).trans ((fill_in _ 0 1 _ _ 12 (by kernel_rfl) rfl rfl (by simp)).trans (congrArg vs (Nat.zero_add _)))
    have i13 : b.eval (.tmp 13) = vs 2 := (congrArg (fun x => Act.eval x (.tmp 13)) hb).trans ((fill_in _ 0 2 _ _ 13 (by kernel_rfl) rfl rfl (by simp)).trans (congrArg vs (Nat.zero_add _)))
    have i14 : b.eval (.tmp 14) = vs 3 := (congrArg (fun x => Act.eval x (.tmp 14)) hb).trans ((fill_in _ 0 3 _ _ 14 (by kernel_rfl) rfl rfl (by simp)).trans (congrArg vs (Nat.zero_add _)))
    have i15 : b.eval (.tmp 15) = vs 4 := (congrArg (fun x => Act.eval x (.tmp 15)) hb).trans ((fill_in _ 0 4 _ _ 15 (by kernel_rfl) rfl rfl (by simp)).trans (congrArg vs (Nat.zero_add _)))
    have i16 : b.eval (.tmp 16) = vs 5 := (congrArg (fun x => Act.eval x (.tmp 16)) hb).trans ((fill_in _ 0 5 _ _ 16 (by kernel_rfl) rfl rfl (by simp)).trans (congrArg vs (Nat.zero_add _)))
    have i17 : b.eval (.tmp 17) = vs 6 := (congrArg (fun x => Act.eval x (.tmp 17)) hb).trans ((fill_in _ 0 6 _ _ 17 (by kernel_rfl) rfl rfl (by simp)).trans (congrArg vs (Nat.zero_add _)))
    have i18 : b.eval (.tmp 18) = vs 7 := (congrArg (fun x => Act.eval x (.tmp 18)) hb).trans ((fill_in _ 0 7 _ _ 18 (by kernel_rfl) rfl rfl (by simp)).trans (congrArg vs (Nat.zero_add _)))
    have i19 : b.eval (.tmp 19) = vs 8 := (congrArg (fun x => Act.eval x (.tmp 19)) hb).trans ((fill_in _ 0 8 _ _ 19 (by kernel_rfl) rfl rfl (by simp)).trans (congrArg vs (Nat.zero_add _)))
    clear hb
    refine And.intro ?_ (And.intro ?_ (And.intro ?_ (And.intro ?_ (And.intro ?_ (And.intro ?_ (And.intro ?_ (And.intro ?_ (And.intro ?_ (And.intro ?_ (And.intro ?_ (And.intro ?_ (And.intro ?_ (trivial)))))))))))))
    · intro hp K hK
      refine g_no rfl ?_
      exact st_field rfl (e1) (by kernel_rfl) (hK _ _ rfl hG (Below.refl _ _))
    · intro hp K hK
      refine g_no rfl ?_
      have e11 : b.eval (.tmp 11) = .pointer (some ⟨w.heap.size, 0, none⟩) := i11.trans (hp 0 (by kernel_rfl))
      exact st_load rfl (e11) (ldw0 hG.b0) (hK _ _ rfl hG (Below.refl _ _))
    · intro hp K hK
      refine g_no rfl ?_
      exact st_field rfl (e1) (by kernel_rfl) (hK _ _ rfl hG (Below.refl _ _))
    · intro hp K hK
      refine g_no rfl ?_
      have e13 : b.eval (.tmp 13) = .pointer (some ⟨w.heap.size, 2, none⟩) := i13.trans (hp 2 (by kernel_rfl))
      exact st_load rfl (e13) (ldw2 hG.b0) (hK _ _ rfl hG (Below.refl _ _))
    · intro hp K hK
      refine g_no rfl ?_
      exact st_field rfl (e1) (by kernel_rfl) (hK _ _ rfl hG (Below.refl _ _))
    · intro hp K hK
      refine g_no rfl ?_
      have e15 : b.eval (.tmp 15) = .pointer (some ⟨w.heap.size, 4, none⟩) := i15.trans (hp 4 (by kernel_rfl))
      exact st_load rfl (e15) (ldw4 hG.b0) (hK _ _ rfl hG (Below.refl _ _))
    · intro hp K hK
      refine g_no rfl ?_
      exact st_field rfl (e1) (by kernel_rfl) (hK _ _ rfl hG (Below.refl _ _))
    · intro hp K hK
      refine g_no rfl ?_
      have e17 : b.eval (.tmp 17) = .pointer (some ⟨w.heap.size, 6, none⟩) := i17.trans (hp 6 (by kernel_rfl))
      exact st_load rfl (e17) (ldw6 hG.b0) (hK _ _ rfl hG (Below.refl _ _))
    · intro hp K hK
      refine g_no rfl ?_
      have e12 : b.eval (.tmp 12) = .agg #[.int .i64 n0, .int .i64 n1] := i12.trans (hp 1 (by kernel_rfl))
      have e14 : b.eval (.tmp 14) = .agg #[.int .i64 k0, .int .i64 k1] := i14.trans (hp 3 (by kernel_rfl))
      have e16 : b.eval (.tmp 16) = .agg #[.int .i64 s0, .int .i64 s1] := i16.trans (hp 5 (by kernel_rfl))
      have e18 : b.eval (.tmp 18) = .agg #[.int .i64 p0, .int .i64 p1, .int .i64 p2, .int .i64 p3] := i18.trans (hp 7 (by kernel_rfl))
      refine st_call rfl (by first | (simp only [List.map_toArray, List.map_cons, List.map_nil, eval_const, e12, e14, e16, e18]; done) | (simp only [List.map_toArray, List.map_cons, List.map_nil, eval_const, e12, e14, e16, e18]; rfl)) (by kernel_rfl) ?_
      refine (Inside_good n0 n1 k0 k1 s0 s1 p0 p1 p2 p3 _ H.out).mono ?_
      rintro e w' ⟨rfl, hb'⟩
      exact ⟨_, rfl, hK _ _ rfl (hG.step hb') hb'⟩
    · intro hp K hK
      refine g_no rfl ?_
      have e19 : b.eval (.tmp 19) = .tuple #[.agg #[.int .i64 (insV n0 n1 k0 k1 s0 s1 p0 p1 p2 p3 0), .int .i64 (insV n0 n1 k0 k1 s0 s1 p0 p1 p2 p3 1), .int .i64 (insV n0 n1 k0 k1 s0 s1 p0 p1 p2 p3 2), .int .i64 (insV n0 n1 k0 k1 s0 s1 p0 p1 p2 p3 3)], .bool true] := i19.trans (hp 8 (by kernel_rfl))
      exact st_move (.inl rfl) (e19) (hK _ _ rfl hG (Below.refl _ _))
    · intro hp K hK
      refine g_no rfl ?_
      have e10 : b.eval (.tmp 10) = .tuple #[.agg #[.int .i64 (insV n0 n1 k0 k1 s0 s1 p0 p1 p2 p3 0), .int .i64 (insV n0 n1 k0 k1 s0 s1 p0 p1 p2 p3 1), .int .i64 (insV n0 n1 k0 k1 s0 s1 p0 p1 p2 p3 2), .int .i64 (insV n0 n1 k0 k1 s0 s1 p0 p1 p2 p3 3)], .bool true] := i10.trans (hp 9 (by kernel_rfl))
      exact st_extract rfl (e10) (by kernel_rfl) (hK _ _ rfl hG (Below.refl _ _))
    · intro hp K hK
      refine g_no rfl ?_
      have e10 : b.eval (.tmp 10) = .tuple #[.agg #[.int .i64 (insV n0 n1 k0 k1 s0 s1 p0 p1 p2 p3 0), .int .i64 (insV n0 n1 k0 k1 s0 s1 p0 p1 p2 p3 1), .int .i64 (insV n0 n1 k0 k1 s0 s1 p0 p1 p2 p3 2), .int .i64 (insV n0 n1 k0 k1 s0 s1 p0 p1 p2 p3 3)], .bool true] := i10.trans (hp 9 (by kernel_rfl))
      exact st_extract rfl (e10) (by kernel_rfl) (hK _ _ rfl hG (Below.refl _ _))
    · intro hp K hK
      refine g_no rfl ?_
      exact st_alloc rfl (new4 _) (hK _ _ ⟨_, rfl, blk_new _ _, hG.size⟩ (hG.alloc _) ((Below.refl _ _).alloc (Nat.le_refl _) _))
  intro vs W hG hp b hb
  have q0 : vs 0 = .pointer (some ⟨w.heap.size, 0, none⟩) := hp 0 (by decide)
  have q1 : vs 1 = .agg #[.int .i64 n0, .int .i64 n1] := hp 1 (by decide)
  have q2 : vs 2 = .pointer (some ⟨w.heap.size, 2, none⟩) := hp 2 (by decide)
  have q3 : vs 3 = .agg #[.int .i64 k0, .int .i64 k1] := hp 3 (by decide)
  have q4 : vs 4 = .pointer (some ⟨w.heap.size, 4, none⟩) := hp 4 (by decide)
  have q5 : vs 5 = .agg #[.int .i64 s0, .int .i64 s1] := hp 5 (by decide)
  have q6 : vs 6 = .pointer (some ⟨w.heap.size, 6, none⟩) := hp 6 (by decide)
  have q7 : vs 7 = .agg #[.int .i64 p0, .int .i64 p1, .int .i64 p2, .int .i64 p3] := hp 7 (by decide)
  have q8 : vs 8 = .tuple #[.agg #[.int .i64 (insV n0 n1 k0 k1 s0 s1 p0 p1 p2 p3 0), .int .i64 (insV n0 n1 k0 k1 s0 s1 p0 p1 p2 p3 1), .int .i64 (insV n0 n1 k0 k1 s0 s1 p0 p1 p2 p3 2), .int .i64 (insV n0 n1 k0 k1 s0 s1 p0 p1 p2 p3 3)], .bool true] := hp 8 (by decide)
  have q9 : vs 9 = .tuple #[.agg #[.int .i64 (insV n0 n1 k0 k1 s0 s1 p0 p1 p2 p3 0), .int .i64 (insV n0 n1 k0 k1 s0 s1 p0 p1 p2 p3 1), .int .i64 (insV n0 n1 k0 k1 s0 s1 p0 p1 p2 p3 2), .int .i64 (insV n0 n1 k0 k1 s0 s1 p0 p1 p2 p3 3)], .bool true] := hp 9 (by decide)
  have q10 : vs 10 = .agg #[.int .i64 (insV n0 n1 k0 k1 s0 s1 p0 p1 p2 p3 0), .int .i64 (insV n0 n1 k0 k1 s0 s1 p0 p1 p2 p3 1), .int .i64 (insV n0 n1 k0 k1 s0 s1 p0 p1 p2 p3 2), .int .i64 (insV n0 n1 k0 k1 s0 s1 p0 p1 p2 p3 3)] := hp 10 (by decide)
  have q11 : vs 11 = .bool true := hp 11 (by decide)
  have q12 : ∃ gg, (vs 12) = .pointer (some ⟨gg, 0, none⟩) ∧ W.heap[gg]? = some (box4 0 0 0 0) ∧ w.heap.size + 1 ≤ gg := hp 12 (by decide)
  clear hp
  simp only [fill, Act.put, List.append_eq, List.cons_append, List.nil_append, List.take_succ_cons, List.take_zero, List.setIfInBounds_toArray, List.set_cons_succ, List.set_cons_zero, Nat.reduceAdd, Nat.zero_add, q0, q1, q2, q3, q4, q5, q6, q7, q8, q9, q10, q11] at hb
  subst hb
  simp only [List.append_eq, List.cons_append, List.nil_append, List.drop_succ_cons, List.drop_zero]
  clear q0 q1 q2 q3 q4 q5 q6 q7 q8 q9 q10 q11
  obtain ⟨g, hv, A, hg⟩ := q12
  rw [hv]
  clear hv J
  have z0 : _ = some (Value.int .i64 0) := (blk_cell A 0).trans rfl
  have y0 := blk_frozen A 0
  have z1 : _ = some (Value.int .i64 0) := (blk_cell A 1).trans rfl
  have y1 := blk_frozen A 1
  have z2 : _ = some (Value.int .i64 0) := (blk_cell A 2).trans rfl
  have y2 := blk_frozen A 2
  have z3 : _ = some (Value.int .i64 0) := (blk_cell A 3).trans rfl
  have y3 := blk_frozen A 3
  have hJ := Lib.hid hG
  clear hG
  go_wp2
  replace hJ := hJ.out
  have hG := ((((hJ.set hg 0 (.int .i64 (insV n0 n1 k0 k1 s0 s1 p0 p1 p2 p3 0))).set hg 1 (.int .i64 (insV n0 n1 k0 k1 s0 s1 p0 p1 p2 p3 1))).set hg 2 (.int .i64 (insV n0 n1 k0 k1 s0 s1 p0 p1 p2 p3 2))).set hg 3 (.int .i64 (insV n0 n1 k0 k1 s0 s1 p0 p1 p2 p3 3)))
  have hA : (((((W.setCell ⟨g, 0, none⟩ (.int .i64 (insV n0 n1 k0 k1 s0 s1 p0 p1 p2 p3 0))).setCell ⟨g, 1, none⟩ (.int .i64 (insV n0 n1 k0 k1 s0 s1 p0 p1 p2 p3 1))).setCell ⟨g, 2, none⟩ (.int .i64 (insV n0 n1 k0 k1 s0 s1 p0 p1 p2 p3 2))).setCell ⟨g, 3, none⟩ (.int .i64 (insV n0 n1 k0 k1 s0 s1 p0 p1 p2 p3 3)))).heap[g]? = some (box4 (insV n0 n1 k0 k1 s0 s1 p0 p1 p2 p3 0) (insV n0 n1 k0 k1 s0 s1 p0 p1 p2 p3 1) (insV n0 n1 k0 k1 s0 s1 p0 p1 p2 p3 2) (insV n0 n1 k0 k1 s0 s1 p0 p1 p2 p3 3)) := (blk_put (blk_put (blk_put (blk_put A 0 _ rfl) 1 _ rfl) 2 _ rfl) 3 _ rfl)
  generalize (((W.setCell ⟨g, 0, none⟩ (.int .i64 (insV n0 n1 k0 k1 s0 s1 p0 p1 p2 p3 0))).setCell ⟨g, 1, none⟩ (.int .i64 (insV n0 n1 k0 k1 s0 s1 p0 p1 p2 p3 1))).setCell ⟨g, 2, none⟩ (.int .i64 (insV n0 n1 k0 k1 s0 s1 p0 p1 p2 p3 2))).setCell ⟨g, 3, none⟩ (.int .i64 (insV n0 n1 k0 k1 s0 s1 p0 p1 p2 p3 3)) = V at *
  clear hJ A z0 z1 z2 z3 y0 y1 y2 y3
  refine HK2.out _ _ ?_
  clear HK2
  apply wp_seq_k
  intro K3 hK3
  have HK3 := Lib.hid hK3
  clear hK3
  apply wp_seq_k
  intro K4 hK4
  have HK4 := Lib.hid hK4
  clear hK4
  refine wp_listed (R := fun W W' => Below W.heap.size W W') 10 [.val (.pointer (some ⟨w.heap.size, 0, none⟩)), .val (.agg #[.int .i64 n0, .int .i64 n1]), .val (.pointer (some ⟨w.heap.size, 2, none⟩)), .val (.agg #[.int .i64 k0, .int .i64 k1]), .val (.pointer (some ⟨w.heap.size, 4, none⟩)), .val (.agg #[.int .i64 s0, .int .i64 s1]), .val (.pointer (some ⟨w.heap.size, 6, none⟩)), .val (.agg #[.int .i64 p0, .int .i64 p1, .int .i64 p2, .int .i64 p3]), .val (.bool true), .val (.bool (!true))] (fun W => WS n0 n1 k0 k1 s0 s1 p0 p1 p2 p3 w W ∧ W.heap[g]? = some (box4 (insV n0 n1 k0 k1 s0 s1 p0 p1 p2 p3 0) (insV n0 n1 k0 k1 s0 s1 p0 p1 p2 p3 1) (insV n0 n1 k0 k1 s0 s1 p0 p1 p2 p3 2) (insV n0 n1 k0 k1 s0 s1 p0 p1 p2 p3 3))) (by kernel_rfl) ⟨hG, hA⟩ ?_ ?_
  · intro vs W hG b hb
    have e1 : b.eval (.tmp 1) = .pointer (some ⟨w.heap.size, 0, none⟩) := (congrArg (fun x => Act.eval x (.tmp 1)) hb).trans ((fill_out _ 0 _ (by kernel_rfl)).trans rfl)
    have i22 : b.eval (.tmp 22) = vs 0 := (congrArg (fun x => Act.eval x (.tmp 22)) hb).trans ((fill_in _ 0 0 _ _ 22 (by kernel_rfl) rfl rfl (by simp)).trans (congrArg vs (Nat.zero_add _)))
    have i23 : b.eval (.tmp 23) = vs 1 := (congrArg (fun x => Act.eval x (.tmp 23)) hb).trans ((fill_in _ 0 1 _ _ 23 (by kernel_rfl) rfl rfl (by simp)).trans (congrArg vs (Nat.zero_add _)))
    have i24 : b.eval (.tmp 24) = vs 2 := (congrArg (fun x => Act.eval x (.tmp 24)) hb).trans ((fill_in _ 0 2 _ _ 24 (by kernel_rfl) rfl rfl (by simp)).trans (congrArg vs (Nat.zero_add _)))
    have i25 : b.eval (.tmp 25) = vs 3 := (congrArg (fun x => Act.eval x (.tmp 25)) hb).trans ((fill_in _ 0 3 _ _ 25 (by kernel_rfl) rfl rfl (by simp)).trans (congrArg vs (Nat.zero_add _)))
    have i26 : b.eval (.tmp 26) = vs 4 := (congrArg (fun x => Act.eval x (.tmp 26)) hb).trans ((fill_in _ 0 4 _ _ 26 (by kernel_rfl) rfl rfl (by simp)).trans (congrArg vs (Nat.zero_add _)))
    have i27 : b.eval (.tmp 27) = vs 5 := (congrArg (fun x => Act.eval x (.tmp 27)) hb).trans ((fill_in _ 0 5 _ _ 27 (by kernel_rfl) rfl rfl (by simp)).trans (congrArg vs (Nat.zero_add _)))
    have i28 : b.eval (.tmp 28) = vs 6 := (congrArg (fun x => Act.eval x (.tmp 28)) hb).trans ((fill_in _ 0 6 _ _ 28 (by kernel_rfl) rfl rfl (by simp)).trans (congrArg vs (Nat.zero_add _)))
    have i29 : b.eval (.tmp 29) = vs 7 := (congrArg (fun x => Act.eval x (.tmp 29)) hb).trans ((fill_in _ 0 7 _ _ 29 (by kernel_rfl) rfl rfl (by simp)).trans (congrArg vs (Nat.zero_add _)))
    have i30 : b.eval (.tmp 30) = vs 8 := (congrArg (fun x => Act.eval x (.tmp 30)) hb).trans ((fill_in _ 0 8 _ _ 30 (by kernel_rfl) rfl rfl (by simp)).trans (congrArg vs (Nat.zero_add _)))
    clear hb
    refine And.intro ?_ (And.intro ?_ (And.intro ?_ (And.intro ?_ (And.intro ?_ (And.intro ?_ (And.intro ?_ (And.intro ?_ (And.intro ?_ (And.intro ?_ (trivial))))))))))
    · intro hp K hK
      refine g_no rfl ?_
      exact st_field rfl (e1) (by kernel_rfl) (hK _ _ rfl hG (Below.refl _ _))
    · intro hp K hK
      refine g_no rfl ?_
      have e22 : b.eval (.tmp 22) = .pointer (some ⟨w.heap.size, 0, none⟩) := i22.trans (hp 0 (by kernel_rfl))
      exact st_load rfl (e22) (ldw0 hG.1.b0) (hK _ _ rfl hG (Below.refl _ _))
    · intro hp K hK
      refine g_no rfl ?_
      exact st_field rfl (e1) (by kernel_rfl) (hK _ _ rfl hG (Below.refl _ _))
    · intro hp K hK
      refine g_no rfl ?_
      have e24 : b.eval (.tmp 24) = .pointer (some ⟨w.heap.size, 2, none⟩) := i24.trans (hp 2 (by kernel_rfl))
      exact st_load rfl (e24) (ldw2 hG.1.b0) (hK _ _ rfl hG (Below.refl _ _))
    · intro hp K hK
      refine g_no rfl ?_
      exact st_field rfl (e1) (by kernel_rfl) (hK _ _ rfl hG (Below.refl _ _))
    · intro hp K hK
      refine g_no rfl ?_
      have e26 : b.eval (.tmp 26) = .pointer (some ⟨w.heap.size, 4, none⟩) := i26.trans (hp 4 (by kernel_rfl))
      exact st_load rfl (e26) (ldw4 hG.1.b0) (hK _ _ rfl hG (Below.refl _ _))
    · intro hp K hK
      refine g_no rfl ?_
      exact st_field rfl (e1) (by kernel_rfl) (hK _ _ rfl hG (Below.refl _ _))
    · intro hp K hK
      refine g_no rfl ?_
      have e28 : b.eval (.tmp 28) = .pointer (some ⟨w.heap.size, 6, none⟩) := i28.trans (hp 6 (by kernel_rfl))
      exact st_load rfl (e28) (ldw6 hG.1.b0) (hK _ _ rfl hG (Below.refl _ _))
    · intro hp K hK
      refine g_no rfl ?_
      have e23 : b.eval (.tmp 23) = .agg #[.int .i64 n0, .int .i64 n1] := i23.trans (hp 1 (by kernel_rfl))
      have e25 : b.eval (.tmp 25) = .agg #[.int .i64 k0, .int .i64 k1] := i25.trans (hp 3 (by kernel_rfl))
      have e27 : b.eval (.tmp 27) = .agg #[.int .i64 s0, .int .i64 s1] := i27.trans (hp 5 (by kernel_rfl))
      have e29 : b.eval (.tmp 29) = .agg #[.int .i64 p0, .int .i64 p1, .int .i64 p2, .int .i64 p3] := i29.trans (hp 7 (by kernel_rfl))
      refine st_call rfl (by first | (simp only [List.map_toArray, List.map_cons, List.map_nil, eval_const, e23, e25, e27, e29]; done) | (simp only [List.map_toArray, List.map_cons, List.map_nil, eval_const, e23, e25, e27, e29]; rfl)) (by kernel_rfl) ?_
      refine ((refGood n0 n1 k0 k1 s0 s1 p0 p1 p2 p3 _).mono (fun e w' h => ⟨h.1.trans (by rw [H.out]), h.2⟩ : ∀ e w', _ → (e = .returned (.bool true) ∧ Below _ _ w'))).mono ?_
      rintro e w' ⟨rfl, hb'⟩
      exact ⟨_, rfl, hK _ _ rfl ⟨hG.1.step hb', blk_below hG.2 hb'⟩ hb'⟩
    · intro hp K hK
      refine g_no rfl ?_
      have e30 : b.eval (.tmp 30) = .bool true := i30.trans (hp 8 (by kernel_rfl))
      exact st_un rfl (e30) u_not (hK _ _ rfl hG (Below.refl _ _))
  intro vs W hG hp b hb
  have q9 : vs 9 = .bool (!true) := hp 9 (by decide)
  clear hp
  simp only [fill, Act.put, List.append_eq, List.cons_append, List.nil_append, List.take_succ_cons, List.take_zero, List.setIfInBounds_toArray, List.set_cons_succ, List.set_cons_zero, Nat.reduceAdd, Nat.zero_add, q9] at hb
  subst hb
  refine wpList_nil ?_
  clear q9
  clear hA
  refine HK4.out _ _ ?_
  clear HK4
  apply wp_cond_false rfl
  apply wp_skip
  simp only [Exit.then]
  refine HK3.out _ _ ?_
  clear HK3
  apply wp_seq_k
  intro K5 hK5
  have HK5 := Lib.hid hK5
  clear hK5
  refine wp_listed (R := fun W W' => Below W.heap.size W W') 10 [.val (.pointer (some ⟨w.heap.size, 0, none⟩)), .val (.agg #[.int .i64 n0, .int .i64 n1]), .val (.pointer (some ⟨w.heap.size, 2, none⟩)), .val (.agg #[.int .i64 k0, .int .i64 k1]), .val (.pointer (some ⟨w.heap.size, 4, none⟩)), .val (.agg #[.int .i64 s0, .int .i64 s1]), .val (.pointer (some ⟨w.heap.size, 6, none⟩)), .val (.agg #[.int .i64 p0, .int .i64 p1, .int .i64 p2, .int .i64 p3]), .val (.agg #[.int .i64 (outV n0 k0 s0 p0 p2), .int .i64 (outV n1 k1 s1 p1 p3)]), newSpec (box2 0 0) (g + 1)] (fun W => WS n0 n1 k0 k1 s0 s1 p0 p1 p2 p3 w W ∧ W.heap[g]? = some (box4 (insV n0 n1 k0 k1 s0 s1 p0 p1 p2 p3 0) (insV n0 n1 k0 k1 s0 s1 p0 p1 p2 p3 1) (insV n0 n1 k0 k1 s0 s1 p0 p1 p2 p3 2) (insV n0 n1 k0 k1 s0 s1 p0 p1 p2 p3 3))) (by kernel_rfl) hG ?_ ?_
  · intro vs W hG b hb
    have e1 : b.eval (.tmp 1) = .pointer (some ⟨w.heap.size, 0, none⟩) := (congrArg (fun x => Act.eval x (.tmp 1)) hb).trans ((fill_out _ 0 _ (by kernel_rfl)).trans rfl)
    have i42 : b.eval (.tmp 42) = vs 0 := (congrArg (fun x => Act.eval x (.tmp 42)) hb).trans ((fill_in _ 0 0 _ _ 42 (by kernel_rfl) rfl rfl (by simp)).trans (congrArg vs (Nat.zero_add _)))
    have i43 : b.eval (.tmp 43) = vs 1 := (congrArg (fun x => Act.eval x (.tmp 43)) hb).trans ((fill_in _ 0 1 _ _ 43 (by kernel_rfl) rfl rfl (by simp)).trans (congrArg vs (Nat.zero_add _)))
    have i44 : b.eval (.tmp 44) = vs 2 := (congrArg (fun x => Act.eval x (.tmp 44)) hb).trans ((fill_in _ 0 2 _ _ 44 (by kernel_rfl) rfl rfl (by simp)).trans (congrArg vs (Nat.zero_add _)))
    have i45 : b.eval (.tmp 45) = vs 3 := (congrArg (fun x => Act.eval x (.tmp 45)) hb).trans ((fill_in _ 0 3 _ _ 45 (by kernel_rfl) rfl rfl (by simp)).trans (congrArg vs (Nat.zero_add _)))
    have i46 : b.eval (.tmp 46) = vs 4 := (congrArg (fun x => Act.eval x (.tmp 46)) hb).trans ((fill_in _ 0 4 _ _ 46 (by kernel_rfl) rfl rfl (by simp)).trans (congrArg vs (Nat.zero_add _)))
    have i47 : b.eval (.tmp 47) = vs 5 := (congrArg (fun x => Act.eval x (.tmp 47)) hb).trans ((fill_in _ 0 5 _ _ 47 (by kernel_rfl) rfl rfl (by simp)).trans (congrArg vs (Nat.zero_add _)))
    have i48 : b.eval (.tmp 48) = vs 6 := (congrArg (fun x => Act.eval x (.tmp 48)) hb).trans ((fill_in _ 0 6 _ _ 48 (by kernel_rfl) rfl rfl (by simp)).trans (congrArg vs (Nat.zero_add _)))
    have i49 : b.eval (.tmp 49) = vs 7 := (congrArg (fun x => Act.eval x (.tmp 49)) hb).trans ((fill_in _ 0 7 _ _ 49 (by kernel_rfl) rfl rfl (by simp)).trans (congrArg vs (Nat.zero_add _)))
    clear hb
    refine And.intro ?_ (And.intro ?_ (And.intro ?_ (And.intro ?_ (And.intro ?_ (And.intro ?_ (And.intro ?_ (And.intro ?_ (And.intro ?_ (And.intro ?_ (trivial))))))))))
    · intro hp K hK
      refine g_no rfl ?_
      exact st_field rfl (e1) (by kernel_rfl) (hK _ _ rfl hG (Below.refl _ _))
    · intro hp K hK
      refine g_no rfl ?_
      have e42 : b.eval (.tmp 42) = .pointer (some ⟨w.heap.size, 0, none⟩) := i42.trans (hp 0 (by kernel_rfl))
      exact st_load rfl (e42) (ldw0 hG.1.b0) (hK _ _ rfl hG (Below.refl _ _))
    · intro hp K hK
      refine g_no rfl ?_
      exact st_field rfl (e1) (by kernel_rfl) (hK _ _ rfl hG (Below.refl _ _))
    · intro hp K hK
      refine g_no rfl ?_
      have e44 : b.eval (.tmp 44) = .pointer (some ⟨w.heap.size, 2, none⟩) := i44.trans (hp 2 (by kernel_rfl))
      exact st_load rfl (e44) (ldw2 hG.1.b0) (hK _ _ rfl hG (Below.refl _ _))
    · intro hp K hK
      refine g_no rfl ?_
      exact st_field rfl (e1) (by kernel_rfl) (hK _ _ rfl hG (Below.refl _ _))
    · intro hp K hK
      refine g_no rfl ?_
      have e46 : b.eval (.tmp 46) = .pointer (some ⟨w.heap.size, 4, none⟩) := i46.trans (hp 4 (by kernel_rfl))
      exact st_load rfl (e46) (ldw4 hG.1.b0) (hK _ _ rfl hG (Below.refl _ _))
    · intro hp K hK
      refine g_no rfl ?_
      exact st_field rfl (e1) (by kernel_rfl) (hK _ _ rfl hG (Below.refl _ _))
    · intro hp K hK
      refine g_no rfl ?_
      have e48 : b.eval (.tmp 48) = .pointer (some ⟨w.heap.size, 6, none⟩) := i48.trans (hp 6 (by kernel_rfl))
      exact st_load rfl (e48) (ldw6 hG.1.b0) (hK _ _ rfl hG (Below.refl _ _))
    · intro hp K hK
      refine g_no rfl ?_
      have e43 : b.eval (.tmp 43) = .agg #[.int .i64 n0, .int .i64 n1] := i43.trans (hp 1 (by kernel_rfl))
      have e45 : b.eval (.tmp 45) = .agg #[.int .i64 k0, .int .i64 k1] := i45.trans (hp 3 (by kernel_rfl))
      have e47 : b.eval (.tmp 47) = .agg #[.int .i64 s0, .int .i64 s1] := i47.trans (hp 5 (by kernel_rfl))
      have e49 : b.eval (.tmp 49) = .agg #[.int .i64 p0, .int .i64 p1, .int .i64 p2, .int .i64 p3] := i49.trans (hp 7 (by kernel_rfl))
      refine st_call rfl (by first | (simp only [List.map_toArray, List.map_cons, List.map_nil, eval_const, e43, e45, e47, e49]; done) | (simp only [List.map_toArray, List.map_cons, List.map_nil, eval_const, e43, e45, e47, e49]; rfl)) (by kernel_rfl) ?_
      refine (refOut n0 n1 k0 k1 s0 s1 p0 p1 p2 p3 _ H.out).mono ?_
      rintro e w' ⟨rfl, hb'⟩
      exact ⟨_, rfl, hK _ _ rfl ⟨hG.1.step hb', blk_below hG.2 hb'⟩ hb'⟩
    · intro hp K hK
      refine g_no rfl ?_
      exact st_alloc rfl (new2 _) (hK _ _ ⟨_, rfl, blk_new _ _, (Array.getElem?_eq_some_iff.1 hG.2).1⟩ ⟨hG.1.alloc _, blk_alloc hG.2 _⟩ ((Below.refl _ _).alloc (Nat.le_refl _) _))
  intro vs W hG hp b hb
  have q0 : vs 0 = .pointer (some ⟨w.heap.size, 0, none⟩) := hp 0 (by decide)
  have q1 : vs 1 = .agg #[.int .i64 n0, .int .i64 n1] := hp 1 (by decide)
  have q2 : vs 2 = .pointer (some ⟨w.heap.size, 2, none⟩) := hp 2 (by decide)
  have q3 : vs 3 = .agg #[.int .i64 k0, .int .i64 k1] := hp 3 (by decide)
  have q4 : vs 4 = .pointer (some ⟨w.heap.size, 4, none⟩) := hp 4 (by decide)
  have q5 : vs 5 = .agg #[.int .i64 s0, .int .i64 s1] := hp 5 (by decide)
  have q6 : vs 6 = .pointer (some ⟨w.heap.size, 6, none⟩) := hp 6 (by decide)
  have q7 : vs 7 = .agg #[.int .i64 p0, .int .i64 p1, .int .i64 p2, .int .i64 p3] := hp 7 (by decide)
  have q8 : vs 8 = .agg #[.int .i64 (outV n0 k0 s0 p0 p2), .int .i64 (outV n1 k1 s1 p1 p3)] := hp 8 (by decide)
  have q9 : ∃ gg, (vs 9) = .pointer (some ⟨gg, 0, none⟩) ∧ W.heap[gg]? = some (box2 0 0) ∧ g + 1 ≤ gg := hp 9 (by decide)
  clear hp
  simp only [fill, Act.put, List.append_eq, List.cons_append, List.nil_append, List.take_succ_cons, List.take_zero, List.setIfInBounds_toArray, List.set_cons_succ, List.set_cons_zero, Nat.reduceAdd, Nat.zero_add, q0, q1, q2, q3, q4, q5, q6, q7, q8] at hb
  subst hb
  simp only [List.append_eq, List.cons_append, List.nil_append, List.drop_succ_cons, List.drop_zero]
  clear q0 q1 q2 q3 q4 q5 q6 q7 q8
  obtain ⟨g2, hv, A, hg2⟩ := q9
  rw [hv]
  clear hv
  have z0 : _ = some (Value.int .i64 0) := (blk_cell A 0).trans rfl
  have y0 := blk_frozen A 0
  have z1 : _ = some (Value.int .i64 0) := (blk_cell A 1).trans rfl
  have y1 := blk_frozen A 1
  have hJ := Lib.hid hG
  clear hG
  go_wp2
  replace hJ := hJ.out
  have hG : WS n0 n1 k0 k1 s0 s1 p0 p1 p2 p3 w ((W.setCell ⟨g2, 0, none⟩ (.int .i64 (outV n0 k0 s0 p0 p2))).setCell ⟨g2, 1, none⟩ (.int .i64 (outV n1 k1 s1 p1 p3))) ∧ ((W.setCell ⟨g2, 0, none⟩ (.int .i64 (outV n0 k0 s0 p0 p2))).setCell ⟨g2, 1, none⟩ (.int .i64 (outV n1 k1 s1 p1 p3))).heap[g]? = some (box4 (insV n0 n1 k0 k1 s0 s1 p0 p1 p2 p3 0) (insV n0 n1 k0 k1 s0 s1 p0 p1 p2 p3 1) (insV n0 n1 k0 k1 s0 s1 p0 p1 p2 p3 2) (insV n0 n1 k0 k1 s0 s1 p0 p1 p2 p3 3)) ∧ ((W.setCell ⟨g2, 0, none⟩ (.int .i64 (outV n0 k0 s0 p0 p2))).setCell ⟨g2, 1, none⟩ (.int .i64 (outV n1 k1 s1 p1 p3))).heap[g2]? = some (box2 (outV n0 k0 s0 p0 p2) (outV n1 k1 s1 p1 p3)) := ⟨(hJ.1.set (by omega) 0 _).set (by omega) 1 _, (Below.heap_setCell _ _ _ _ (by show _ ≠ g2; omega)).trans ((Below.heap_setCell _ _ _ _ (by show _ ≠ g2; omega)).trans hJ.2), blk_put (blk_put A 0 _ rfl) 1 _ rfl⟩
  generalize (W.setCell ⟨g2, 0, none⟩ (.int .i64 (outV n0 k0 s0 p0 p2))).setCell ⟨g2, 1, none⟩ (.int .i64 (outV n1 k1 s1 p1 p3)) = V at *
  clear hJ A z0 z1 y0 y1
  refine HK5.out _ _ ?_
  clear HK5
  apply wp_seq_k
  intro K6 hK6
  have HK6 := Lib.hid hK6
  clear hK6
  apply wp_seq_k
  intro K7 hK7
  have HK7 := Lib.hid hK7
  clear hK7
  go_wp2
  refine HK7.out _ _ ?_
  clear HK7
  apply wp_block
  have hO := prodb (a := (outV n0 k0 s0 p0 p2)) (b := (outV n1 k1 s1 p1 p3)) (c := 200) (d := 200) (by obtain ⟨h00, h01, h02, h03, h04, h10, h11, h12, h13, h14, ha, hb⟩ := goodV_iff.1 H.out; have := out_mid ⟨h00, h01, h02, h03, h04, ha⟩; omega) (by obtain ⟨h00, h01, h02, h03, h04, h10, h11, h12, h13, h14, ha, hb⟩ := goodV_iff.1 H.out; have := out_mid ⟨h10, h11, h12, h13, h14, hb⟩; omega)
  have hO1 : 1 ≤ (outV n1 k1 s1 p1 p3) ∧ (outV n1 k1 s1 p1 p3) ≤ 200 := by obtain ⟨h00, h01, h02, h03, h04, h10, h11, h12, h13, h14, ha, hb⟩ := goodV_iff.1 H.out; exact out_mid ⟨h10, h11, h12, h13, h14, hb⟩
  have hO0 : 1 ≤ (outV n0 k0 s0 p0 p2) ∧ (outV n0 k0 s0 p0 p2) ≤ 200 := by obtain ⟨h00, h01, h02, h03, h04, h10, h11, h12, h13, h14, ha, hb⟩ := goodV_iff.1 H.out; exact out_mid ⟨h00, h01, h02, h03, h04, ha⟩
  have HO := Lib.hid hO
  have HO1 := Lib.hid hO1
  have HO0 := Lib.hid hO0
  clear hO hO1 hO0
  refine wp_loopS [6, 7, 8, 9, 51, 52, 53, 54, 55, 56, 57, 58, 59, 60, 61, 62, 63, 64, 65, 66, 67, 68, 69, 70, 71, 72, 73, 74, 75, 76, 77, 78, 79, 80, 81, 82, 83, 84, 85, 86, 87, 88, 89, 90, 91, 92, 93, 94, 95, 96, 97, 98, 99, 100, 101, 102, 103, 104, 105, 106, 107, 108, 109, 110, 111] (fun sl W => ∃ m : Nat, sl 6 = .int .i64 (m : Int) ∧ (m : Int) ≤ (outV n0 k0 s0 p0 p2) * (outV n1 k1 s1 p1 p3) ∧ WS n0 n1 k0 k1 s0 s1 p0 p1 p2 p3 w W ∧ W.heap[g]? = some (box4 (insV n0 n1 k0 k1 s0 s1 p0 p1 p2 p3 0) (insV n0 n1 k0 k1 s0 s1 p0 p1 p2 p3 1) (insV n0 n1 k0 k1 s0 s1 p0 p1 p2 p3 2) (insV n0 n1 k0 k1 s0 s1 p0 p1 p2 p3 3)) ∧ W.heap[g2]? = some (box2 (outV n0 k0 s0 p0 p2) (outV n1 k1 s1 p1 p3))) (fun sl W => ((outV n0 k0 s0 p0 p2) * (outV n1 k1 s1 p1 p3) - intOf (sl 6)).toNat) ⟨0, rfl, HO.out.1, hG⟩ ?_
  intro vs W b hb hI
  clear hG
  obtain ⟨m, h6, hm, hG⟩ := hI
  simp only [setSlots, Act.put, List.setIfInBounds_toArray, List.set_cons_succ, List.set_cons_zero] at hb
  subst hb
  replace h6 : vs 6 = .int .i64 (m : Int) := h6
  rw [h6]
  clear h6
  apply wp_seq_k
  intro K8 hK8
  have HK8 := Lib.hid hK8
  clear hK8
  apply wp_seq_k
  intro K9 hK9
  have HK9 := Lib.hid hK9
  clear hK9
  refine wp_listed (R := fun W W' => Below W.heap.size W W') 7 [.val (.int .i64 (m : Int)), .val (.pointer (some ⟨g2, 0, none⟩)), .val (.int .i64 (outV n0 k0 s0 p0 p2)), .val (.pointer (some ⟨g2, 1, none⟩)), .val (.int .i64 (outV n1 k1 s1 p1 p3)), .val (.int .i64 ((outV n0 k0 s0 p0 p2) * (outV n1 k1 s1 p1 p3))), .val (.bool (decide ((m : Int) < ((outV n0 k0 s0 p0 p2) * (outV n1 k1 s1 p1 p3)))))] (fun W => WS n0 n1 k0 k1 s0 s1 p0 p1 p2 p3 w W ∧ W.heap[g]? = some (box4 (insV n0 n1 k0 k1 s0 s1 p0 p1 p2 p3 0) (insV n0 n1 k0 k1 s0 s1 p0 p1 p2 p3 1) (insV n0 n1 k0 k1 s0 s1 p0 p1 p2 p3 2) (insV n0 n1 k0 k1 s0 s1 p0 p1 p2 p3 3)) ∧ W.heap[g2]? = some (box2 (outV n0 k0 s0 p0 p2) (outV n1 k1 s1 p1 p3))) (by kernel_rfl) hG ?_ ?_
  · intro vs W hG b hb
    have e5 : b.eval (.tmp 5) = .pointer (some ⟨g2, 0, none⟩) := (congrArg (fun x => Act.eval x (.tmp 5)) hb).trans ((fill_out _ 0 _ (by kernel_rfl)).trans rfl)
    have e6 : b.eval (.tmp 6) = .int .i64 (m : Int) := (congrArg (fun x => Act.eval x (.tmp 6)) hb).trans ((fill_out _ 0 _ (by kernel_rfl)).trans rfl)
    have i51 : b.eval (.tmp 51) = vs 0 := (congrArg (fun x => Act.eval x (.tmp 51)) hb).trans ((fill_in _ 0 0 _ _ 51 (by kernel_rfl) rfl rfl (by simp)).trans (congrArg vs (Nat.zero_add _)))
    have i52 : b.eval (.tmp 52) = vs 1 := (congrArg (fun x => Act.eval x (.tmp 52)) hb).trans ((fill_in _ 0 1 _ _ 52 (by kernel_rfl) rfl rfl (by simp)).trans (congrArg vs (Nat.zero_add _)))
    have i53 : b.eval (.tmp 53) = vs 2 := (congrArg (fun x => Act.eval x (.tmp 53)) hb).trans ((fill_in _ 0 2 _ _ 53 (by kernel_rfl) rfl rfl (by simp)).trans (congrArg vs (Nat.zero_add _)))
    have i54 : b.eval (.tmp 54) = vs 3 := (congrArg (fun x => Act.eval x (.tmp 54)) hb).trans ((fill_in _ 0 3 _ _ 54 (by kernel_rfl) rfl rfl (by simp)).trans (congrArg vs (Nat.zero_add _)))
    have i55 : b.eval (.tmp 55) = vs 4 := (congrArg (fun x => Act.eval x (.tmp 55)) hb).trans ((fill_in _ 0 4 _ _ 55 (by kernel_rfl) rfl rfl (by simp)).trans (congrArg vs (Nat.zero_add _)))
    have i56 : b.eval (.tmp 56) = vs 5 := (congrArg (fun x => Act.eval x (.tmp 56)) hb).trans ((fill_in _ 0 5 _ _ 56 (by kernel_rfl) rfl rfl (by simp)).trans (congrArg vs (Nat.zero_add _)))
    clear hb
    refine And.intro ?_ (And.intro ?_ (And.intro ?_ (And.intro ?_ (And.intro ?_ (And.intro ?_ (And.intro ?_ (trivial)))))))
    · intro hp K hK
      refine g_no rfl ?_
      exact st_move (.inl rfl) (e6) (hK _ _ rfl hG (Below.refl _ _))
    · intro hp K hK
      refine g_no rfl ?_
      exact st_index rfl (e5) (eval_const _) (by kernel_rfl) (hK _ _ rfl hG (Below.refl _ _))
    · intro hp K hK
      refine g_no rfl ?_
      have e52 : b.eval (.tmp 52) = .pointer (some ⟨g2, 0, none⟩) := i52.trans (hp 1 (by kernel_rfl))
      exact st_load rfl (e52) (ld1 ((blk_cell hG.2.2 0).trans rfl)) (hK _ _ rfl hG (Below.refl _ _))
    · intro hp K hK
      refine g_no rfl ?_
      exact st_index rfl (e5) (eval_const _) (by kernel_rfl) (hK _ _ rfl hG (Below.refl _ _))
    · intro hp K hK
      refine g_no rfl ?_
      have e54 : b.eval (.tmp 54) = .pointer (some ⟨g2, 1, none⟩) := i54.trans (hp 3 (by kernel_rfl))
      exact st_load rfl (e54) (ld1 ((blk_cell hG.2.2 1).trans rfl)) (hK _ _ rfl hG (Below.refl _ _))
    · intro hp K hK
      refine g_no rfl ?_
      have e53 : b.eval (.tmp 53) = .int .i64 (outV n0 k0 s0 p0 p2) := i53.trans (hp 2 (by kernel_rfl))
      have e55 : b.eval (.tmp 55) = .int .i64 (outV n1 k1 s1 p1 p3) := i55.trans (hp 4 (by kernel_rfl))
      have HO_ := HO.out
      have HO1_ := HO1.out
      have HO0_ := HO0.out
      exact st_bin rfl (e53) (e55) (b_mul (by first | rfl | exact IntWalk.i64_in _ (by omega))) (hK _ _ rfl hG (Below.refl _ _))
    · intro hp K hK
      refine g_no rfl ?_
      have e51 : b.eval (.tmp 51) = .int .i64 (m : Int) := i51.trans (hp 0 (by kernel_rfl))
      have e56 : b.eval (.tmp 56) = .int .i64 ((outV n0 k0 s0 p0 p2) * (outV n1 k1 s1 p1 p3)) := i56.trans (hp 5 (by kernel_rfl))
      exact st_bin rfl (e51) (e56) b_lss (hK _ _ rfl hG (Below.refl _ _))
  intro vs W hG hp b hb
  have q6 : vs 6 = .bool (decide ((m : Int) < ((outV n0 k0 s0 p0 p2) * (outV n1 k1 s1 p1 p3)))) := hp 6 (by decide)
  clear hp
  simp only [fill, Act.put, List.append_eq, List.cons_append, List.nil_append, List.take_succ_cons, List.take_zero, List.setIfInBounds_toArray, List.set_cons_succ, List.set_cons_zero, Nat.reduceAdd, Nat.zero_add, q6] at hb
  subst hb
  refine wpList_nil ?_
  clear q6
  refine HK9.out _ _ ?_
  clear HK9
  refine wp_cond_split rfl (fun hlt => ?_) (fun hlt => ?_)
  rotate_left
  · have hG := Lib.hid hG
    clear hlt
    apply wp_exit
    simp only [Exit.inBlock, Exit.then, ↓reduceIte]
    refine HK6.out _ _ ?_
    clear HK6
    apply wp_seq_k
    intro K10 hK10
    have HK10 := Lib.hid hK10
    clear hK10
    replace hG := hG.out
    refine wp_listed (R := fun W W' => Below W.heap.size W W') 19 [.val (.bool true), .val (.bool true), .val ((bif ((true) == true) then (.pointer (some ⟨g, 1, none⟩)) else undef)), .val ((bif ((true) == true) then (.int .i64 (insV n0 n1 k0 k1 s0 s1 p0 p1 p2 p3 1)) else undef)), .val ((bif ((true) == true) then (.pointer (some ⟨g2, 0, none⟩)) else undef)), .val ((bif ((true) == true) then (.int .i64 (outV n0 k0 s0 p0 p2)) else undef)), .val ((bif ((true) == true) then (.bool true) else undef)), .val (.bool (true && true)), .val (.bool (true && true)), .val ((bif ((true && true) == true) then (.pointer (some ⟨g, 3, none⟩)) else undef)), .val ((bif ((true && true) == true) then (.int .i64 (insV n0 n1 k0 k1 s0 s1 p0 p1 p2 p3 3)) else undef)), .val ((bif ((true && true) == true) then (.pointer (some ⟨g2, 1, none⟩)) else undef)), .val ((bif ((true && true) == true) then (.int .i64 (outV n1 k1 s1 p1 p3)) else undef)), .val ((bif ((true && true) == true) then (.bool true) else undef)), .val (.bool ((true && true) && true)), .val (.bool ((true && true) && true)), .val ((bif (((true && true) && true) == true) then (.bool true) else undef)), .val (.bool (((true && true) && true) && true)), .val (.bool (((true && true) && true) && true))] (fun W => WS n0 n1 k0 k1 s0 s1 p0 p1 p2 p3 w W ∧ W.heap[g]? = some (box4 (insV n0 n1 k0 k1 s0 s1 p0 p1 p2 p3 0) (insV n0 n1 k0 k1 s0 s1 p0 p1 p2 p3 1) (insV n0 n1 k0 k1 s0 s1 p0 p1 p2 p3 2) (insV n0 n1 k0 k1 s0 s1 p0 p1 p2 p3 3)) ∧ W.heap[g2]? = some (box2 (outV n0 k0 s0 p0 p2) (outV n1 k1 s1 p1 p3))) (by kernel_rfl) hG ?_ ?_
    · intro vs W hG b hb
      have e3 : b.eval (.tmp 3) = .pointer (some ⟨g, 0, none⟩) := (congrArg (fun x => Act.eval x (.tmp 3)) hb).trans ((fill_out _ 0 _ (by kernel_rfl)).trans rfl)
      have e4 : b.eval (.tmp 4) = .bool true := (congrArg (fun x => Act.eval x (.tmp 4)) hb).trans ((fill_out _ 0 _ (by kernel_rfl)).trans rfl)
      have e5 : b.eval (.tmp 5) = .pointer (some ⟨g2, 0, none⟩) := (congrArg (fun x => Act.eval x (.tmp 5)) hb).trans ((fill_out _ 0 _ (by kernel_rfl)).trans rfl)
      have i112 : b.eval (.tmp 112) = vs 0 := (congrArg (fun x => Act.eval x (.tmp 112)) hb).trans ((fill_in _ 0 0 _ _ 112 (by kernel_rfl) rfl rfl (by simp)).trans (congrArg vs (Nat.zero_add _)))
      have i113 : b.eval (.tmp 113) = vs 1 := (congrArg (fun x => Act.eval x (.tmp 113)) hb).trans ((fill_in _ 0 1 _ _ 113 (by kernel_rfl) rfl rfl (by simp)).trans (congrArg vs (Nat.zero_add _)))
      have i114 : b.eval (.tmp 114) = vs 2 := (congrArg (fun x => Act.eval x (.tmp 114)) hb).trans ((fill_in _ 0 2 _ _ 114 (by kernel_rfl) rfl rfl (by simp)).trans (congrArg vs (Nat.zero_add _)))
      have i115 : b.eval (.tmp 115) = vs 3 := (congrArg (fun x => Act.eval x (.tmp 115)) hb).trans ((fill_in _ 0 3 _ _ 115 (by kernel_rfl) rfl rfl (by simp)).trans (congrArg vs (Nat.zero_add _)))
      have i116 : b.eval (.tmp 116) = vs 4 := (congrArg (fun x => Act.eval x (.tmp 116)) hb).trans ((fill_in _ 0 4 _ _ 116 (by kernel_rfl) rfl rfl (by simp)).trans (congrArg vs (Nat.zero_add _)))
      have i117 : b.eval (.tmp 117) = vs 5 := (congrArg (fun x => Act.eval x (.tmp 117)) hb).trans ((fill_in _ 0 5 _ _ 117 (by kernel_rfl) rfl rfl (by simp)).trans (congrArg vs (Nat.zero_add _)))
      have i118 : b.eval (.tmp 118) = vs 6 := (congrArg (fun x => Act.eval x (.tmp 118)) hb).trans ((fill_in _ 0 6 _ _ 118 (by kernel_rfl) rfl rfl (by simp)).trans (congrArg vs (Nat.zero_add _)))
      have i119 : b.eval (.tmp 119) = vs 7 := (congrArg (fun x => Act.eval x (.tmp 119)) hb).trans ((fill_in _ 0 7 _ _ 119 (by kernel_rfl) rfl rfl (by simp)).trans (congrArg vs (Nat.zero_add _)))
      have i120 : b.eval (.tmp 120) = vs 8 := (congrArg (fun x => Act.eval x (.tmp 120)) hb).trans ((fill_in _ 0 8 _ _ 120 (by kernel_rfl) rfl rfl (by simp)).trans (congrArg vs (Nat.zero_add _)))
      have i121 : b.eval (.tmp 121) = vs 9 := (congrArg (fun x => Act.eval x (.tmp 121)) hb).trans ((fill_in _ 0 9 _ _ 121 (by kernel_rfl) rfl rfl (by simp)).trans (congrArg vs (Nat.zero_add _)))
      have i122 : b.eval (.tmp 122) = vs 10 := (congrArg (fun x => Act.eval x (.tmp 122)) hb).trans ((fill_in _ 0 10 _ _ 122 (by kernel_rfl) rfl rfl (by simp)).trans (congrArg vs (Nat.zero_add _)))
      have i123 : b.eval (.tmp 123) = vs 11 := (congrArg (fun x => Act.eval x (.tmp 123)) hb).trans ((fill_in _ 0 11 _ _ 123 (by kernel_rfl) rfl rfl (by simp)).trans (congrArg vs (Nat.zero_add _)))
      have i124 : b.eval (.tmp 124) = vs 12 := (congrArg (fun x => Act.eval x (.tmp 124)) hb).trans ((fill_in _ 0 12 _ _ 124 (by kernel_rfl) rfl rfl (by simp)).trans (congrArg vs (Nat.zero_add _)))
      have i125 : b.eval (.tmp 125) = vs 13 := (congrArg (fun x => Act.eval x (.tmp 125)) hb).trans ((fill_in _ 0 13 _ _ 125 (by kernel_rfl) rfl rfl (by simp)).trans (congrArg vs (Nat.zero_add _)))
      have i126 : b.eval (.tmp 126) = vs 14 := (congrArg (fun x => Act.eval x (.tmp 126)) hb).trans ((fill_in _ 0 14 _ _ 126 (by kernel_rfl) rfl rfl (by simp)).trans (congrArg vs (Nat.zero_add _)))
      have i127 : b.eval (.tmp 127) = vs 15 := (congrArg (fun x => Act.eval x (.tmp 127)) hb).trans ((fill_in _ 0 15 _ _ 127 (by kernel_rfl) rfl rfl (by simp)).trans (congrArg vs (Nat.zero_add _)))
      have i128 : b.eval (.tmp 128) = vs 16 := (congrArg (fun x => Act.eval x (.tmp 128)) hb).trans ((fill_in _ 0 16 _ _ 128 (by kernel_rfl) rfl rfl (by simp)).trans (congrArg vs (Nat.zero_add _)))
      have i129 : b.eval (.tmp 129) = vs 17 := (congrArg (fun x => Act.eval x (.tmp 129)) hb).trans ((fill_in _ 0 17 _ _ 129 (by kernel_rfl) rfl rfl (by simp)).trans (congrArg vs (Nat.zero_add _)))
      clear hb
      refine And.intro ?_ (And.intro ?_ (And.intro ?_ (And.intro ?_ (And.intro ?_ (And.intro ?_ (And.intro ?_ (And.intro ?_ (And.intro ?_ (And.intro ?_ (And.intro ?_ (And.intro ?_ (And.intro ?_ (And.intro ?_ (And.intro ?_ (And.intro ?_ (And.intro ?_ (And.intro ?_ (And.intro ?_ (trivial)))))))))))))))))))
      · intro hp K hK
        refine g_no rfl ?_
        exact st_move (.inl rfl) (e4) (hK _ _ rfl hG (Below.refl _ _))
      · intro hp K hK
        refine g_no rfl ?_
        have e112 : b.eval (.tmp 112) = .bool true := i112.trans (hp 0 (by kernel_rfl))
        exact st_move (.inl rfl) (e112) (hK _ _ rfl hG (Below.refl _ _))
      · intro hp K hK
        refine g_is (j := 1) (want := true) (c := true) rfl (yielded_of (d := 113) rfl rfl (i113.trans (hp 1 (by kernel_rfl)))) (fun hb => ?_) (fun hb => hK _ _ (cond_no hb) hG (Below.refl _ _))
        exact st_index rfl (e3) (eval_const _) (by kernel_rfl) (hK _ _ (cond_yes hb).symm hG (Below.refl _ _))
      · intro hp K hK
        refine g_is (j := 1) (want := true) (c := true) rfl (yielded_of (d := 113) rfl rfl (i113.trans (hp 1 (by kernel_rfl)))) (fun hb => ?_) (fun hb => hK _ _ (cond_no hb) hG (Below.refl _ _))
        have e114 : b.eval (.tmp 114) = (bif ((true) == true) then (.pointer (some ⟨g, 1, none⟩)) else undef) := i114.trans (hp 2 (by kernel_rfl))
        replace e114 := e114.trans (cond_yes hb)
        exact st_load rfl (e114) (ld1 ((blk_cell hG.2.1 1).trans rfl)) (hK _ _ (cond_yes hb).symm hG (Below.refl _ _))
      · intro hp K hK
        refine g_is (j := 1) (want := true) (c := true) rfl (yielded_of (d := 113) rfl rfl (i113.trans (hp 1 (by kernel_rfl)))) (fun hb => ?_) (fun hb => hK _ _ (cond_no hb) hG (Below.refl _ _))
        exact st_index rfl (e5) (eval_const _) (by kernel_rfl) (hK _ _ (cond_yes hb).symm hG (Below.refl _ _))
      · intro hp K hK
        refine g_is (j := 1) (want := true) (c := true) rfl (yielded_of (d := 113) rfl rfl (i113.trans (hp 1 (by kernel_rfl)))) (fun hb => ?_) (fun hb => hK _ _ (cond_no hb) hG (Below.refl _ _))
        have e116 : b.eval (.tmp 116) = (bif ((true) == true) then (.pointer (some ⟨g2, 0, none⟩)) else undef) := i116.trans (hp 4 (by kernel_rfl))
        replace e116 := e116.trans (cond_yes hb)
        exact st_load rfl (e116) (ld1 ((blk_cell hG.2.2 0).trans rfl)) (hK _ _ (cond_yes hb).symm hG (Below.refl _ _))
      · intro hp K hK
        refine g_is (j := 1) (want := true) (c := true) rfl (yielded_of (d := 113) rfl rfl (i113.trans (hp 1 (by kernel_rfl)))) (fun hb => ?_) (fun hb => hK _ _ (cond_no hb) hG (Below.refl _ _))
        have e115 : b.eval (.tmp 115) = (bif ((true) == true) then (.int .i64 (insV n0 n1 k0 k1 s0 s1 p0 p1 p2 p3 1)) else undef) := i115.trans (hp 3 (by kernel_rfl))
        replace e115 := e115.trans (cond_yes hb)
        have e117 : b.eval (.tmp 117) = (bif ((true) == true) then (.int .i64 (outV n0 k0 s0 p0 p2)) else undef) := i117.trans (hp 5 (by kernel_rfl))
        replace e117 := e117.trans (cond_yes hb)
        exact st_bin rfl (e115) (e117) (b_leq.trans (by rw [decide_eq_true (ins_le H.out).1])) (hK _ _ (cond_yes hb).symm hG (Below.refl _ _))
      · intro hp K hK
        refine g_no rfl ?_
        have e113 : b.eval (.tmp 113) = .bool true := i113.trans (hp 1 (by kernel_rfl))
        have e118 : b.eval (.tmp 118) = (bif ((true) == true) then (.bool true) else undef) := i118.trans (hp 6 (by kernel_rfl))
        exact st_pick rfl (e113) (by first | (rw [e118]; exact pick_and) | (rw [show b.eval (Operand.tmp 118) = _ from eval_const _]; exact pick_and)) (hK _ _ rfl hG (Below.refl _ _))
      · intro hp K hK
        refine g_no rfl ?_
        have e119 : b.eval (.tmp 119) = .bool (true && true) := i119.trans (hp 7 (by kernel_rfl))
        exact st_move (.inl rfl) (e119) (hK _ _ rfl hG (Below.refl _ _))
      · intro hp K hK
        refine g_is (j := 8) (want := true) (c := true && true) rfl (yielded_of (d := 120) rfl rfl (i120.trans (hp 8 (by kernel_rfl)))) (fun hb => ?_) (fun hb => hK _ _ (cond_no hb) hG (Below.refl _ _))
        exact st_index rfl (e3) (eval_const _) (by kernel_rfl) (hK _ _ (cond_yes hb).symm hG (Below.refl _ _))
      · intro hp K hK
        refine g_is (j := 8) (want := true) (c := true && true) rfl (yielded_of (d := 120) rfl rfl (i120.trans (hp 8 (by kernel_rfl)))) (fun hb => ?_) (fun hb => hK _ _ (cond_no hb) hG (Below.refl _ _))
        have e121 : b.eval (.tmp 121) = (bif ((true && true) == true) then (.pointer (some ⟨g, 3, none⟩)) else undef) := i121.trans (hp 9 (by kernel_rfl))
        replace e121 := e121.trans (cond_yes hb)
        exact st_load rfl (e121) (ld1 ((blk_cell hG.2.1 3).trans rfl)) (hK _ _ (cond_yes hb).symm hG (Below.refl _ _))
      · intro hp K hK
        refine g_is (j := 8) (want := true) (c := true && true) rfl (yielded_of (d := 120) rfl rfl (i120.trans (hp 8 (by kernel_rfl)))) (fun hb => ?_) (fun hb => hK _ _ (cond_no hb) hG (Below.refl _ _))
        exact st_index rfl (e5) (eval_const _) (by kernel_rfl) (hK _ _ (cond_yes hb).symm hG (Below.refl _ _))
      · intro hp K hK
        refine g_is (j := 8) (want := true) (c := true && true) rfl (yielded_of (d := 120) rfl rfl (i120.trans (hp 8 (by kernel_rfl)))) (fun hb => ?_) (fun hb => hK _ _ (cond_no hb) hG (Below.refl _ _))
        have e123 : b.eval (.tmp 123) = (bif ((true && true) == true) then (.pointer (some ⟨g2, 1, none⟩)) else undef) := i123.trans (hp 11 (by kernel_rfl))
        replace e123 := e123.trans (cond_yes hb)
        exact st_load rfl (e123) (ld1 ((blk_cell hG.2.2 1).trans rfl)) (hK _ _ (cond_yes hb).symm hG (Below.refl _ _))
      · intro hp K hK
        refine g_is (j := 8) (want := true) (c := true && true) rfl (yielded_of (d := 120) rfl rfl (i120.trans (hp 8 (by kernel_rfl)))) (fun hb => ?_) (fun hb => hK _ _ (cond_no hb) hG (Below.refl _ _))
        have e122 : b.eval (.tmp 122) = (bif ((true && true) == true) then (.int .i64 (insV n0 n1 k0 k1 s0 s1 p0 p1 p2 p3 3)) else undef) := i122.trans (hp 10 (by kernel_rfl))
        replace e122 := e122.trans (cond_yes hb)
        have e124 : b.eval (.tmp 124) = (bif ((true && true) == true) then (.int .i64 (outV n1 k1 s1 p1 p3)) else undef) := i124.trans (hp 12 (by kernel_rfl))
        replace e124 := e124.trans (cond_yes hb)
        exact st_bin rfl (e122) (e124) (b_leq.trans (by rw [decide_eq_true (ins_le H.out).2])) (hK _ _ (cond_yes hb).symm hG (Below.refl _ _))
      · intro hp K hK
        refine g_no rfl ?_
        have e120 : b.eval (.tmp 120) = .bool (true && true) := i120.trans (hp 8 (by kernel_rfl))
        have e125 : b.eval (.tmp 125) = (bif ((true && true) == true) then (.bool true) else undef) := i125.trans (hp 13 (by kernel_rfl))
        exact st_pick rfl (e120) (by first | (rw [e125]; exact pick_and) | (rw [show b.eval (Operand.tmp 125) = _ from eval_const _]; exact pick_and)) (hK _ _ rfl hG (Below.refl _ _))
      · intro hp K hK
        refine g_no rfl ?_
        have e126 : b.eval (.tmp 126) = .bool ((true && true) && true) := i126.trans (hp 14 (by kernel_rfl))
        exact st_move (.inl rfl) (e126) (hK _ _ rfl hG (Below.refl _ _))
      · intro hp K hK
        refine g_is (j := 15) (want := true) (c := (true && true) && true) rfl (yielded_of (d := 127) rfl rfl (i127.trans (hp 15 (by kernel_rfl)))) (fun hb => ?_) (fun hb => hK _ _ (cond_no hb) hG (Below.refl _ _))
        refine st_call rfl (by first | (simp only [List.map_toArray, List.map_cons, List.map_nil, eval_const]; done) | (simp only [List.map_toArray, List.map_cons, List.map_nil, eval_const]; rfl)) (by kernel_rfl) ?_
        refine (lives_is _).mono ?_
        rintro e w' ⟨rfl, hb'⟩
        exact ⟨_, rfl, hK _ _ (cond_yes hb).symm ⟨hG.1.step hb', blk_below hG.2.1 hb', blk_below hG.2.2 hb'⟩ hb'⟩
      · intro hp K hK
        refine g_no rfl ?_
        have e127 : b.eval (.tmp 127) = .bool ((true && true) && true) := i127.trans (hp 15 (by kernel_rfl))
        have e128 : b.eval (.tmp 128) = (bif (((true && true) && true) == true) then (.bool true) else undef) := i128.trans (hp 16 (by kernel_rfl))
        exact st_pick rfl (e127) (by first | (rw [e128]; exact pick_and) | (rw [show b.eval (Operand.tmp 128) = _ from eval_const _]; exact pick_and)) (hK _ _ rfl hG (Below.refl _ _))
      · intro hp K hK
        refine g_no rfl ?_
        have e129 : b.eval (.tmp 129) = .bool (((true && true) && true) && true) := i129.trans (hp 17 (by kernel_rfl))
        exact st_move (.inr rfl) (e129) (hK _ _ rfl hG (Below.refl _ _))
    intro vs W hG hp b hb
    have q18 : vs 18 = .bool (((true && true) && true) && true) := hp 18 (by decide)
    clear hp
    simp only [fill, Act.put, List.append_eq, List.cons_append, List.nil_append, List.take_succ_cons, List.take_zero, List.setIfInBounds_toArray, List.set_cons_succ, List.set_cons_zero, Nat.reduceAdd, Nat.zero_add, q18] at hb
    subst hb
    refine wpList_nil ?_
    clear q18
    refine HK10.out _ _ ?_
    clear HK10
    have hG := Lib.hid hG
    go_wp2
    go_ret
    exact ⟨rfl, hG.out.1.bel⟩
  replace hlt := of_decide_eq_true hlt
  apply wp_skip
  simp only [Exit.then]
  refine HK8.out _ _ ?_
  clear HK8
  apply wp_seq_k
  intro K11 hK11
  have HK11 := Lib.hid hK11
  clear hK11
  apply wp_block
  apply wp_seq_k
  intro K12 hK12
  have HK12 := Lib.hid hK12
  clear hK12
  refine wp_drawn (R := fun W W' => Below W.heap.size W W') 10 [.val (.int .i64 (m : Int)), .val (.pointer (some ⟨g2, 1, none⟩)), .val (.int .i64 (outV n1 k1 s1 p1 p3)), .val (.int .i64 ((m : Int) / (outV n1 k1 s1 p1 p3))), .val (.int .i64 (m : Int)), .val (.pointer (some ⟨g2, 1, none⟩)), .val (.int .i64 (outV n1 k1 s1 p1 p3)), .val (.int .i64 ((m : Int) % (outV n1 k1 s1 p1 p3))), .val (.int .i64 ((m : Int) / (outV n1 k1 s1 p1 p3))), .val (.int .i64 ((m : Int) % (outV n1 k1 s1 p1 p3)))] (fun W => WS n0 n1 k0 k1 s0 s1 p0 p1 p2 p3 w W ∧ W.heap[g]? = some (box4 (insV n0 n1 k0 k1 s0 s1 p0 p1 p2 p3 0) (insV n0 n1 k0 k1 s0 s1 p0 p1 p2 p3 1) (insV n0 n1 k0 k1 s0 s1 p0 p1 p2 p3 2) (insV n0 n1 k0 k1 s0 s1 p0 p1 p2 p3 3)) ∧ W.heap[g2]? = some (box2 (outV n0 k0 s0 p0 p2) (outV n1 k1 s1 p1 p3))) rfl (by kernel_rfl) ⟨hG.1.drew, hG.2⟩ ?_ ?_
  · intro vs W hG b hb
    have e5 : b.eval (.tmp 5) = .pointer (some ⟨g2, 0, none⟩) := (congrArg (fun x => Act.eval x (.tmp 5)) hb).trans ((fill_out _ 0 _ (by kernel_rfl)).trans rfl)
    have e6 : b.eval (.tmp 6) = .int .i64 (m : Int) := (congrArg (fun x => Act.eval x (.tmp 6)) hb).trans ((fill_out _ 0 _ (by kernel_rfl)).trans rfl)
    have i60 : b.eval (.tmp 60) = vs 0 := (congrArg (fun x => Act.eval x (.tmp 60)) hb).trans ((fill_in _ 0 0 _ _ 60 (by kernel_rfl) rfl rfl (by simp)).trans (congrArg vs (Nat.zero_add _)))
    have i61 : b.eval (.tmp 61) = vs 1 := (congrArg (fun x => Act.eval x (.tmp 61)) hb).trans ((fill_in _ 0 1 _ _ 61 (by kernel_rfl) rfl rfl (by simp)).trans (congrArg vs (Nat.zero_add _)))
    have i62 : b.eval (.tmp 62) = vs 2 := (congrArg (fun x => Act.eval x (.tmp 62)) hb).trans ((fill_in _ 0 2 _ _ 62 (by kernel_rfl) rfl rfl (by simp)).trans (congrArg vs (Nat.zero_add _)))
    have i63 : b.eval (.tmp 63) = vs 3 := (congrArg (fun x => Act.eval x (.tmp 63)) hb).trans ((fill_in _ 0 3 _ _ 63 (by kernel_rfl) rfl rfl (by simp)).trans (congrArg vs (Nat.zero_add _)))
    have i64 : b.eval (.tmp 64) = vs 4 := (congrArg (fun x => Act.eval x (.tmp 64)) hb).trans ((fill_in _ 0 4 _ _ 64 (by kernel_rfl) rfl rfl (by simp)).trans (congrArg vs (Nat.zero_add _)))
    have i65 : b.eval (.tmp 65) = vs 5 := (congrArg (fun x => Act.eval x (.tmp 65)) hb).trans ((fill_in _ 0 5 _ _ 65 (by kernel_rfl) rfl rfl (by simp)).trans (congrArg vs (Nat.zero_add _)))
    have i66 : b.eval (.tmp 66) = vs 6 := (congrArg (fun x => Act.eval x (.tmp 66)) hb).trans ((fill_in _ 0 6 _ _ 66 (by kernel_rfl) rfl rfl (by simp)).trans (congrArg vs (Nat.zero_add _)))
    have i67 : b.eval (.tmp 67) = vs 7 := (congrArg (fun x => Act.eval x (.tmp 67)) hb).trans ((fill_in _ 0 7 _ _ 67 (by kernel_rfl) rfl rfl (by simp)).trans (congrArg vs (Nat.zero_add _)))
    clear hb
    refine And.intro ?_ (And.intro ?_ (And.intro ?_ (And.intro ?_ (And.intro ?_ (And.intro ?_ (And.intro ?_ (And.intro ?_ (And.intro ?_ (And.intro ?_ (trivial))))))))))
    · intro hp K hK
      refine g_no rfl ?_
      exact st_move (.inl rfl) (e6) (hK _ _ rfl hG (Below.refl _ _))
    · intro hp K hK
      refine g_no rfl ?_
      exact st_index rfl (e5) (eval_const _) (by kernel_rfl) (hK _ _ rfl hG (Below.refl _ _))
    · intro hp K hK
      refine g_no rfl ?_
      have e61 : b.eval (.tmp 61) = .pointer (some ⟨g2, 1, none⟩) := i61.trans (hp 1 (by kernel_rfl))
      exact st_load rfl (e61) (ld1 ((blk_cell hG.2.2 1).trans rfl)) (hK _ _ rfl hG (Below.refl _ _))
    · intro hp K hK
      refine g_no rfl ?_
      have e60 : b.eval (.tmp 60) = .int .i64 (m : Int) := i60.trans (hp 0 (by kernel_rfl))
      have e62 : b.eval (.tmp 62) = .int .i64 (outV n1 k1 s1 p1 p3) := i62.trans (hp 2 (by kernel_rfl))
      have HO_ := HO.out
      have HO1_ := HO1.out
      have HO0_ := HO0.out
      exact st_bin rfl (e60) (e62) (b_quo (by omega) (IntWalk.i64_quo _ _ ⟨by omega, by omega, by omega⟩)) (hK _ _ rfl hG (Below.refl _ _))
    · intro hp K hK
      refine g_no rfl ?_
      exact st_move (.inl rfl) (e6) (hK _ _ rfl hG (Below.refl _ _))
    · intro hp K hK
      refine g_no rfl ?_
      exact st_index rfl (e5) (eval_const _) (by kernel_rfl) (hK _ _ rfl hG (Below.refl _ _))
    · intro hp K hK
      refine g_no rfl ?_
      have e65 : b.eval (.tmp 65) = .pointer (some ⟨g2, 1, none⟩) := i65.trans (hp 5 (by kernel_rfl))
      exact st_load rfl (e65) (ld1 ((blk_cell hG.2.2 1).trans rfl)) (hK _ _ rfl hG (Below.refl _ _))
    · intro hp K hK
      refine g_no rfl ?_
      have e64 : b.eval (.tmp 64) = .int .i64 (m : Int) := i64.trans (hp 4 (by kernel_rfl))
      have e66 : b.eval (.tmp 66) = .int .i64 (outV n1 k1 s1 p1 p3) := i66.trans (hp 6 (by kernel_rfl))
      have HO_ := HO.out
      have HO1_ := HO1.out
      have HO0_ := HO0.out
      exact st_bin rfl (e64) (e66) (b_rem (by omega) (Int.tmod_eq_emod_of_nonneg (by omega))) (hK _ _ rfl hG (Below.refl _ _))
    · intro hp K hK
      refine g_no rfl ?_
      have e63 : b.eval (.tmp 63) = .int .i64 ((m : Int) / (outV n1 k1 s1 p1 p3)) := i63.trans (hp 3 (by kernel_rfl))
      exact st_move (.inr rfl) (e63) (hK _ _ rfl hG (Below.refl _ _))
    · intro hp K hK
      refine g_no rfl ?_
      have e67 : b.eval (.tmp 67) = .int .i64 ((m : Int) % (outV n1 k1 s1 p1 p3)) := i67.trans (hp 7 (by kernel_rfl))
      exact st_move (.inr rfl) (e67) (hK _ _ rfl hG (Below.refl _ _))
  intro vs W hG hp b hb
  have q8 : vs 8 = .int .i64 ((m : Int) / (outV n1 k1 s1 p1 p3)) := hp 8 (by decide)
  have q9 : vs 9 = .int .i64 ((m : Int) % (outV n1 k1 s1 p1 p3)) := hp 9 (by decide)
  clear hp
  simp only [fill, Act.put, List.append_eq, List.cons_append, List.nil_append, List.take_succ_cons, List.take_zero, List.setIfInBounds_toArray, List.set_cons_succ, List.set_cons_zero, Nat.reduceAdd, Nat.zero_add, q8, q9] at hb
  subst hb
  refine wpList_nil ?_
  clear q8 q9
  refine HK12.out _ _ ?_
  clear HK12
  have hD : 0 ≤ ((m : Int) / (outV n1 k1 s1 p1 p3)) ∧ ((m : Int) / (outV n1 k1 s1 p1 p3)) < (outV n0 k0 s0 p0 p2) := ⟨Int.ediv_nonneg (by omega) (by have := HO1.out; omega), Int.ediv_lt_of_lt_mul (by have := HO1.out; omega) hlt⟩
  have hM : 0 ≤ ((m : Int) % (outV n1 k1 s1 p1 p3)) ∧ ((m : Int) % (outV n1 k1 s1 p1 p3)) < (outV n1 k1 s1 p1 p3) := ⟨Int.emod_nonneg _ (by have := HO1.out; omega), Int.emod_lt_of_pos _ (by have := HO1.out; omega)⟩
  have hIF := Lib.hid (inside_iff H.out hD hM)
  have HD := Lib.hid hD
  have HM := Lib.hid hM
  clear hD hM
  apply wp_seq_k
  intro K13 hK13
  have HK13 := Lib.hid hK13
  clear hK13
  refine wp_drawn (R := fun W W' => Below W.heap.size W W') 21 [.val (.pointer (some ⟨w.heap.size, 0, none⟩)), .val (.agg #[.int .i64 n0, .int .i64 n1]), .val (.pointer (some ⟨w.heap.size, 2, none⟩)), .val (.agg #[.int .i64 k0, .int .i64 k1]), .val (.pointer (some ⟨w.heap.size, 4, none⟩)), .val (.agg #[.int .i64 s0, .int .i64 s1]), .val (.pointer (some ⟨w.heap.size, 6, none⟩)), .val (.agg #[.int .i64 p0, .int .i64 p1, .int .i64 p2, .int .i64 p3]), .val (.int .i64 ((m : Int) / (outV n1 k1 s1 p1 p3))), .val (.int .i64 ((m : Int) % (outV n1 k1 s1 p1 p3))), ⟨fun v _ => ∃ a c, v = .slice a (tapsL n0 n1 k1 s0 s1 p0 p1 ((m : Int) / (outV n1 k1 s1 p1 p3)) ((m : Int) % (outV n1 k1 s1 p1 p3)) (k0 * k1).toNat).length c, fun _ _ _ h _ => h⟩, .val (.int .i64 ((tapsL n0 n1 k1 s0 s1 p0 p1 ((m : Int) / (outV n1 k1 s1 p1 p3)) ((m : Int) % (outV n1 k1 s1 p1 p3)) (k0 * k1).toNat).length : Int)), .val (.pointer (some ⟨w.heap.size, 2, none⟩)), .val (.pointer (some ⟨w.heap.size, 2, none⟩)), .val (.int .i64 k0), .val (.pointer (some ⟨w.heap.size, 2, none⟩)), .val (.pointer (some ⟨w.heap.size, 3, none⟩)), .val (.int .i64 k1), .val (.int .i64 (k0 * k1)), .val (.bool (((tapsL n0 n1 k1 s0 s1 p0 p1 ((m : Int) / (outV n1 k1 s1 p1 p3)) ((m : Int) % (outV n1 k1 s1 p1 p3)) (k0 * k1).toNat).length : Int) == (k0 * k1))), .val (.bool (((tapsL n0 n1 k1 s0 s1 p0 p1 ((m : Int) / (outV n1 k1 s1 p1 p3)) ((m : Int) % (outV n1 k1 s1 p1 p3)) (k0 * k1).toNat).length : Int) == (k0 * k1)))] (fun W => WS n0 n1 k0 k1 s0 s1 p0 p1 p2 p3 w W ∧ W.heap[g]? = some (box4 (insV n0 n1 k0 k1 s0 s1 p0 p1 p2 p3 0) (insV n0 n1 k0 k1 s0 s1 p0 p1 p2 p3 1) (insV n0 n1 k0 k1 s0 s1 p0 p1 p2 p3 2) (insV n0 n1 k0 k1 s0 s1 p0 p1 p2 p3 3)) ∧ W.heap[g2]? = some (box2 (outV n0 k0 s0 p0 p2) (outV n1 k1 s1 p1 p3))) rfl (by kernel_rfl) ⟨hG.1.drew, hG.2⟩ ?_ ?_
  · intro vs W hG b hb
    have e1 : b.eval (.tmp 1) = .pointer (some ⟨w.heap.size, 0, none⟩) := (congrArg (fun x => Act.eval x (.tmp 1)) hb).trans ((fill_out _ 0 _ (by kernel_rfl)).trans rfl)
    have e7 : b.eval (.tmp 7) = .int .i64 ((m : Int) / (outV n1 k1 s1 p1 p3)) := (congrArg (fun x => Act.eval x (.tmp 7)) hb).trans ((fill_out _ 0 _ (by kernel_rfl)).trans rfl)
    have e8 : b.eval (.tmp 8) = .int .i64 ((m : Int) % (outV n1 k1 s1 p1 p3)) := (congrArg (fun x => Act.eval x (.tmp 8)) hb).trans ((fill_out _ 0 _ (by kernel_rfl)).trans rfl)
    have i68 : b.eval (.tmp 68) = vs 0 := (congrArg (fun x => Act.eval x (.tmp 68)) hb).trans ((fill_in _ 0 0 _ _ 68 (by kernel_rfl) rfl rfl (by simp)).trans (congrArg vs (Nat.zero_add _)))
    have i69 : b.eval (.tmp 69) = vs 1 := (congrArg (fun x => Act.eval x (.tmp 69)) hb).trans ((fill_in _ 0 1 _ _ 69 (by kernel_rfl) rfl rfl (by simp)).trans (congrArg vs (Nat.zero_add _)))
    have i70 : b.eval (.tmp 70) = vs 2 := (congrArg (fun x => Act.eval x (.tmp 70)) hb).trans ((fill_in _ 0 2 _ _ 70 (by kernel_rfl) rfl rfl (by simp)).trans (congrArg vs (Nat.zero_add _)))
    have i71 : b.eval (.tmp 71) = vs 3 := (congrArg (fun x => Act.eval x (.tmp 71)) hb).trans ((fill_in _ 0 3 _ _ 71 (by kernel_rfl) rfl rfl (by simp)).trans (congrArg vs (Nat.zero_add _)))
    have i72 : b.eval (.tmp 72) = vs 4 := (congrArg (fun x => Act.eval x (.tmp 72)) hb).trans ((fill_in _ 0 4 _ _ 72 (by kernel_rfl) rfl rfl (by simp)).trans (congrArg vs (Nat.zero_add _)))
    have i73 : b.eval (.tmp 73) = vs 5 := (congrArg (fun x => Act.eval x (.tmp 73)) hb).trans ((fill_in _ 0 5 _ _ 73 (by kernel_rfl) rfl rfl (by simp)).trans (congrArg vs (Nat.zero_add _)))
    have i74 : b.eval (.tmp 74) = vs 6 := (congrArg (fun x => Act.eval x (.tmp 74)) hb).trans ((fill_in _ 0 6 _ _ 74 (by kernel_rfl) rfl rfl (by simp)).trans (congrArg vs (Nat.zero_add _)))
    have i75 : b.eval (.tmp 75) = vs 7 := (congrArg (fun x => Act.eval x (.tmp 75)) hb).trans ((fill_in _ 0 7 _ _ 75 (by kernel_rfl) rfl rfl (by simp)).trans (congrArg vs (Nat.zero_add _)))
    have i76 : b.eval (.tmp 76) = vs 8 := (congrArg (fun x => Act.eval x (.tmp 76)) hb).trans ((fill_in _ 0 8 _ _ 76 (by kernel_rfl) rfl rfl (by simp)).trans (congrArg vs (Nat.zero_add _)))
    have i77 : b.eval (.tmp 77) = vs 9 := (congrArg (fun x => Act.eval x (.tmp 77)) hb).trans ((fill_in _ 0 9 _ _ 77 (by kernel_rfl) rfl rfl (by simp)).trans (congrArg vs (Nat.zero_add _)))
    have i78 : b.eval (.tmp 78) = vs 10 := (congrArg (fun x => Act.eval x (.tmp 78)) hb).trans ((fill_in _ 0 10 _ _ 78 (by kernel_rfl) rfl rfl (by simp)).trans (congrArg vs (Nat.zero_add _)))
    have i79 : b.eval (.tmp 79) = vs 11 := (congrArg (fun x => Act.eval x (.tmp 79)) hb).trans ((fill_in _ 0 11 _ _ 79 (by kernel_rfl) rfl rfl (by simp)).trans (congrArg vs (Nat.zero_add _)))
    have i80 : b.eval (.tmp 80) = vs 12 := (congrArg (fun x => Act.eval x (.tmp 80)) hb).trans ((fill_in _ 0 12 _ _ 80 (by kernel_rfl) rfl rfl (by simp)).trans (congrArg vs (Nat.zero_add _)))
    have i81 : b.eval (.tmp 81) = vs 13 := (congrArg (fun x => Act.eval x (.tmp 81)) hb).trans ((fill_in _ 0 13 _ _ 81 (by kernel_rfl) rfl rfl (by simp)).trans (congrArg vs (Nat.zero_add _)))
    have i82 : b.eval (.tmp 82) = vs 14 := (congrArg (fun x => Act.eval x (.tmp 82)) hb).trans ((fill_in _ 0 14 _ _ 82 (by kernel_rfl) rfl rfl (by simp)).trans (congrArg vs (Nat.zero_add _)))
    have i83 : b.eval (.tmp 83) = vs 15 := (congrArg (fun x => Act.eval x (.tmp 83)) hb).trans ((fill_in _ 0 15 _ _ 83 (by kernel_rfl) rfl rfl (by simp)).trans (congrArg vs (Nat.zero_add _)))
    have i84 : b.eval (.tmp 84) = vs 16 := (congrArg (fun x => Act.eval x (.tmp 84)) hb).trans ((fill_in _ 0 16 _ _ 84 (by kernel_rfl) rfl rfl (by simp)).trans (congrArg vs (Nat.zero_add _)))
    have i85 : b.eval (.tmp 85) = vs 17 := (congrArg (fun x => Act.eval x (.tmp 85)) hb).trans ((fill_in _ 0 17 _ _ 85 (by kernel_rfl) rfl rfl (by simp)).trans (congrArg vs (Nat.zero_add _)))
    have i86 : b.eval (.tmp 86) = vs 18 := (congrArg (fun x => Act.eval x (.tmp 86)) hb).trans ((fill_in _ 0 18 _ _ 86 (by kernel_rfl) rfl rfl (by simp)).trans (congrArg vs (Nat.zero_add _)))
    have i87 : b.eval (.tmp 87) = vs 19 := (congrArg (fun x => Act.eval x (.tmp 87)) hb).trans ((fill_in _ 0 19 _ _ 87 (by kernel_rfl) rfl rfl (by simp)).trans (congrArg vs (Nat.zero_add _)))
    clear hb
    refine And.intro ?_ (And.intro ?_ (And.intro ?_ (And.intro ?_ (And.intro ?_ (And.intro ?_ (And.intro ?_ (And.intro ?_ (And.intro ?_ (And.intro ?_ (And.intro ?_ (And.intro ?_ (And.intro ?_ (And.intro ?_ (And.intro ?_ (And.intro ?_ (And.intro ?_ (And.intro ?_ (And.intro ?_ (And.intro ?_ (And.intro ?_ (trivial)))))))))))))))))))))
    · intro hp K hK
      refine g_no rfl ?_
      exact st_field rfl (e1) (by kernel_rfl) (hK _ _ rfl hG (Below.refl _ _))
    · intro hp K hK
      refine g_no rfl ?_
      have e68 : b.eval (.tmp 68) = .pointer (some ⟨w.heap.size, 0, none⟩) := i68.trans (hp 0 (by kernel_rfl))
      exact st_load rfl (e68) (ldw0 hG.1.b0) (hK _ _ rfl hG (Below.refl _ _))
    · intro hp K hK
      refine g_no rfl ?_
      exact st_field rfl (e1) (by kernel_rfl) (hK _ _ rfl hG (Below.refl _ _))
    · intro hp K hK
      refine g_no rfl ?_
      have e70 : b.eval (.tmp 70) = .pointer (some ⟨w.heap.size, 2, none⟩) := i70.trans (hp 2 (by kernel_rfl))
      exact st_load rfl (e70) (ldw2 hG.1.b0) (hK _ _ rfl hG (Below.refl _ _))
    · intro hp K hK
      refine g_no rfl ?_
      exact st_field rfl (e1) (by kernel_rfl) (hK _ _ rfl hG (Below.refl _ _))
    · intro hp K hK
      refine g_no rfl ?_
      have e72 : b.eval (.tmp 72) = .pointer (some ⟨w.heap.size, 4, none⟩) := i72.trans (hp 4 (by kernel_rfl))
      exact st_load rfl (e72) (ldw4 hG.1.b0) (hK _ _ rfl hG (Below.refl _ _))
    · intro hp K hK
      refine g_no rfl ?_
      exact st_field rfl (e1) (by kernel_rfl) (hK _ _ rfl hG (Below.refl _ _))
    · intro hp K hK
      refine g_no rfl ?_
      have e74 : b.eval (.tmp 74) = .pointer (some ⟨w.heap.size, 6, none⟩) := i74.trans (hp 6 (by kernel_rfl))
      exact st_load rfl (e74) (ldw6 hG.1.b0) (hK _ _ rfl hG (Below.refl _ _))
    · intro hp K hK
      refine g_no rfl ?_
      exact st_move (.inl rfl) (e7) (hK _ _ rfl hG (Below.refl _ _))
    · intro hp K hK
      refine g_no rfl ?_
      exact st_move (.inl rfl) (e8) (hK _ _ rfl hG (Below.refl _ _))
    · intro hp K hK
      refine g_no rfl ?_
      have e69 : b.eval (.tmp 69) = .agg #[.int .i64 n0, .int .i64 n1] := i69.trans (hp 1 (by kernel_rfl))
      have e71 : b.eval (.tmp 71) = .agg #[.int .i64 k0, .int .i64 k1] := i71.trans (hp 3 (by kernel_rfl))
      have e73 : b.eval (.tmp 73) = .agg #[.int .i64 s0, .int .i64 s1] := i73.trans (hp 5 (by kernel_rfl))
      have e75 : b.eval (.tmp 75) = .agg #[.int .i64 p0, .int .i64 p1, .int .i64 p2, .int .i64 p3] := i75.trans (hp 7 (by kernel_rfl))
      have e76 : b.eval (.tmp 76) = .int .i64 ((m : Int) / (outV n1 k1 s1 p1 p3)) := i76.trans (hp 8 (by kernel_rfl))
      have e77 : b.eval (.tmp 77) = .int .i64 ((m : Int) % (outV n1 k1 s1 p1 p3)) := i77.trans (hp 9 (by kernel_rfl))
      refine st_call rfl (by first | (simp only [List.map_toArray, List.map_cons, List.map_nil, eval_const, e69, e71, e73, e75, e76, e77]; done) | (simp only [List.map_toArray, List.map_cons, List.map_nil, eval_const, e69, e71, e73, e75, e76, e77]; rfl)) (by kernel_rfl) ?_
      refine (refTaps n0 n1 k0 k1 s0 s1 p0 p1 p2 p3 ((m : Int) / (outV n1 k1 s1 p1 p3)) ((m : Int) % (outV n1 k1 s1 p1 p3)) _ (by obtain ⟨h00, h01, h02, h03, h04, h10, h11, h12, h13, h14, ha, hb⟩ := goodV_iff.1 H.out; have := HD.out; have := HM.out; have := HO0.out; have := HO1.out; omega)).mono ?_
      rintro e w' ⟨v, rfl, hown, hb'⟩
      exact ⟨_, rfl, hK _ _ (own_slice hown) ⟨hG.1.step hb', blk_below hG.2.1 hb', blk_below hG.2.2 hb'⟩ hb'⟩
    · intro hp K hK
      refine g_no rfl ?_
      have q10 : ∃ a c, (vs 10) = .slice a (tapsL n0 n1 k1 s0 s1 p0 p1 ((m : Int) / (outV n1 k1 s1 p1 p3)) ((m : Int) % (outV n1 k1 s1 p1 p3)) (k0 * k1).toNat).length c := hp 10 (by kernel_rfl)
      obtain ⟨a_, c_, hv⟩ := q10
      have e78 := i78.trans hv
      exact st_builtin rfl (by first | (simp only [List.map_toArray, List.map_cons, List.map_nil, eval_const, e78]; done) | (simp only [List.map_toArray, List.map_cons, List.map_nil, eval_const, e78]; rfl)) (fun cs => b_len cs _) (hK _ _ rfl hG (Below.refl _ _))
    · intro hp K hK
      refine g_no rfl ?_
      exact st_field rfl (e1) (by kernel_rfl) (hK _ _ rfl hG (Below.refl _ _))
    · intro hp K hK
      refine g_no rfl ?_
      have e80 : b.eval (.tmp 80) = .pointer (some ⟨w.heap.size, 2, none⟩) := i80.trans (hp 12 (by kernel_rfl))
      exact st_index rfl (e80) (eval_const _) (by kernel_rfl) (hK _ _ rfl hG (Below.refl _ _))
    · intro hp K hK
      refine g_no rfl ?_
      have e81 : b.eval (.tmp 81) = .pointer (some ⟨w.heap.size, 2, none⟩) := i81.trans (hp 13 (by kernel_rfl))
      exact st_load rfl (e81) (ld1 ((blk_cell hG.1.b0 2).trans rfl)) (hK _ _ rfl hG (Below.refl _ _))
    · intro hp K hK
      refine g_no rfl ?_
      exact st_field rfl (e1) (by kernel_rfl) (hK _ _ rfl hG (Below.refl _ _))
    · intro hp K hK
      refine g_no rfl ?_
      have e83 : b.eval (.tmp 83) = .pointer (some ⟨w.heap.size, 2, none⟩) := i83.trans (hp 15 (by kernel_rfl))
      exact st_index rfl (e83) (eval_const _) (by kernel_rfl) (hK _ _ rfl hG (Below.refl _ _))
    · intro hp K hK
      refine g_no rfl ?_
      have e84 : b.eval (.tmp 84) = .pointer (some ⟨w.heap.size, 3, none⟩) := i84.trans (hp 16 (by kernel_rfl))
      exact st_load rfl (e84) (ld1 ((blk_cell hG.1.b0 3).trans rfl)) (hK _ _ rfl hG (Below.refl _ _))
    · intro hp K hK
      refine g_no rfl ?_
      have e82 : b.eval (.tmp 82) = .int .i64 k0 := i82.trans (hp 14 (by kernel_rfl))
      have e85 : b.eval (.tmp 85) = .int .i64 k1 := i85.trans (hp 17 (by kernel_rfl))
      have := prodb (a := k0) (b := k1) (c := 8) (d := 8) (by have := goodV_iff.1 H.out; omega) (by have := goodV_iff.1 H.out; omega)
      exact st_bin rfl (e82) (e85) (b_mul (by first | rfl | exact IntWalk.i64_in _ (by omega))) (hK _ _ rfl hG (Below.refl _ _))
    · intro hp K hK
      refine g_no rfl ?_
      have e79 : b.eval (.tmp 79) = .int .i64 ((tapsL n0 n1 k1 s0 s1 p0 p1 ((m : Int) / (outV n1 k1 s1 p1 p3)) ((m : Int) % (outV n1 k1 s1 p1 p3)) (k0 * k1).toNat).length : Int) := i79.trans (hp 11 (by kernel_rfl))
      have e86 : b.eval (.tmp 86) = .int .i64 (k0 * k1) := i86.trans (hp 18 (by kernel_rfl))
      exact st_bin rfl (e79) (e86) b_eql (hK _ _ rfl hG (Below.refl _ _))
    · intro hp K hK
      refine g_no rfl ?_
      have e87 : b.eval (.tmp 87) = .bool (((tapsL n0 n1 k1 s0 s1 p0 p1 ((m : Int) / (outV n1 k1 s1 p1 p3)) ((m : Int) % (outV n1 k1 s1 p1 p3)) (k0 * k1).toNat).length : Int) == (k0 * k1)) := i87.trans (hp 19 (by kernel_rfl))
      exact st_move (.inr rfl) (e87) (hK _ _ rfl hG (Below.refl _ _))
  intro vs W hG hp b hb
  have q10 : ∃ a c, (vs 10) = .slice a (tapsL n0 n1 k1 s0 s1 p0 p1 ((m : Int) / (outV n1 k1 s1 p1 p3)) ((m : Int) % (outV n1 k1 s1 p1 p3)) (k0 * k1).toNat).length c := hp 10 (by decide)
  have q20 : vs 20 = .bool (((tapsL n0 n1 k1 s0 s1 p0 p1 ((m : Int) / (outV n1 k1 s1 p1 p3)) ((m : Int) % (outV n1 k1 s1 p1 p3)) (k0 * k1).toNat).length : Int) == (k0 * k1)) := hp 20 (by decide)
  clear hp
  simp only [fill, Act.put, List.append_eq, List.cons_append, List.nil_append, List.take_succ_cons, List.take_zero, List.setIfInBounds_toArray, List.set_cons_succ, List.set_cons_zero, Nat.reduceAdd, Nat.zero_add, q20] at hb
  subst hb
  refine wpList_nil ?_
  clear q20
  clear q10
  refine HK13.out _ _ ?_
  clear HK13
  apply wp_seq_k
  intro K14 hK14
  have HK14 := Lib.hid hK14
  clear hK14
  refine wp_listed (R := fun W W' => Below W.heap.size W W') 24 [.val (.bool (((tapsL n0 n1 k1 s0 s1 p0 p1 ((m : Int) / (outV n1 k1 s1 p1 p3)) ((m : Int) % (outV n1 k1 s1 p1 p3)) (k0 * k1).toNat).length : Int) == k0 * k1)), .val (.int .i64 ((m : Int) / (outV n1 k1 s1 p1 p3))), .val (.pointer (some ⟨g, 0, none⟩)), .val (.int .i64 (insV n0 n1 k0 k1 s0 s1 p0 p1 p2 p3 0)), .val (.bool (decide ((insV n0 n1 k0 k1 s0 s1 p0 p1 p2 p3 0) ≤ ((m : Int) / (outV n1 k1 s1 p1 p3))))), .val (.bool (decide ((insV n0 n1 k0 k1 s0 s1 p0 p1 p2 p3 0) ≤ ((m : Int) / (outV n1 k1 s1 p1 p3))))), .val ((bif ((decide ((insV n0 n1 k0 k1 s0 s1 p0 p1 p2 p3 0) ≤ ((m : Int) / (outV n1 k1 s1 p1 p3)))) == true) then (.int .i64 ((m : Int) / (outV n1 k1 s1 p1 p3))) else undef)), .val ((bif ((decide ((insV n0 n1 k0 k1 s0 s1 p0 p1 p2 p3 0) ≤ ((m : Int) / (outV n1 k1 s1 p1 p3)))) == true) then (.pointer (some ⟨g, 1, none⟩)) else undef)), .val ((bif ((decide ((insV n0 n1 k0 k1 s0 s1 p0 p1 p2 p3 0) ≤ ((m : Int) / (outV n1 k1 s1 p1 p3)))) == true) then (.int .i64 (insV n0 n1 k0 k1 s0 s1 p0 p1 p2 p3 1)) else undef)), .val ((bif ((decide ((insV n0 n1 k0 k1 s0 s1 p0 p1 p2 p3 0) ≤ ((m : Int) / (outV n1 k1 s1 p1 p3)))) == true) then (.bool (decide (((m : Int) / (outV n1 k1 s1 p1 p3)) < (insV n0 n1 k0 k1 s0 s1 p0 p1 p2 p3 1)))) else undef)), .val (.bool ((decide ((insV n0 n1 k0 k1 s0 s1 p0 p1 p2 p3 0) ≤ ((m : Int) / (outV n1 k1 s1 p1 p3)))) && (decide (((m : Int) / (outV n1 k1 s1 p1 p3)) < (insV n0 n1 k0 k1 s0 s1 p0 p1 p2 p3 1))))), .val (.bool ((decide ((insV n0 n1 k0 k1 s0 s1 p0 p1 p2 p3 0) ≤ ((m : Int) / (outV n1 k1 s1 p1 p3)))) && (decide (((m : Int) / (outV n1 k1 s1 p1 p3)) < (insV n0 n1 k0 k1 s0 s1 p0 p1 p2 p3 1))))), .val ((bif (((decide ((insV n0 n1 k0 k1 s0 s1 p0 p1 p2 p3 0) ≤ ((m : Int) / (outV n1 k1 s1 p1 p3)))) && (decide (((m : Int) / (outV n1 k1 s1 p1 p3)) < (insV n0 n1 k0 k1 s0 s1 p0 p1 p2 p3 1)))) == true) then (.int .i64 ((m : Int) % (outV n1 k1 s1 p1 p3))) else undef)), .val ((bif (((decide ((insV n0 n1 k0 k1 s0 s1 p0 p1 p2 p3 0) ≤ ((m : Int) / (outV n1 k1 s1 p1 p3)))) && (decide (((m : Int) / (outV n1 k1 s1 p1 p3)) < (insV n0 n1 k0 k1 s0 s1 p0 p1 p2 p3 1)))) == true) then (.pointer (some ⟨g, 2, none⟩)) else undef)), .val ((bif (((decide ((insV n0 n1 k0 k1 s0 s1 p0 p1 p2 p3 0) ≤ ((m : Int) / (outV n1 k1 s1 p1 p3)))) && (decide (((m : Int) / (outV n1 k1 s1 p1 p3)) < (insV n0 n1 k0 k1 s0 s1 p0 p1 p2 p3 1)))) == true) then (.int .i64 (insV n0 n1 k0 k1 s0 s1 p0 p1 p2 p3 2)) else undef)), .val ((bif (((decide ((insV n0 n1 k0 k1 s0 s1 p0 p1 p2 p3 0) ≤ ((m : Int) / (outV n1 k1 s1 p1 p3)))) && (decide (((m : Int) / (outV n1 k1 s1 p1 p3)) < (insV n0 n1 k0 k1 s0 s1 p0 p1 p2 p3 1)))) == true) then (.bool (decide ((insV n0 n1 k0 k1 s0 s1 p0 p1 p2 p3 2) ≤ ((m : Int) % (outV n1 k1 s1 p1 p3))))) else undef)), .val (.bool (((decide ((insV n0 n1 k0 k1 s0 s1 p0 p1 p2 p3 0) ≤ ((m : Int) / (outV n1 k1 s1 p1 p3)))) && (decide (((m : Int) / (outV n1 k1 s1 p1 p3)) < (insV n0 n1 k0 k1 s0 s1 p0 p1 p2 p3 1)))) && (decide ((insV n0 n1 k0 k1 s0 s1 p0 p1 p2 p3 2) ≤ ((m : Int) % (outV n1 k1 s1 p1 p3)))))), .val (.bool (((decide ((insV n0 n1 k0 k1 s0 s1 p0 p1 p2 p3 0) ≤ ((m : Int) / (outV n1 k1 s1 p1 p3)))) && (decide (((m : Int) / (outV n1 k1 s1 p1 p3)) < (insV n0 n1 k0 k1 s0 s1 p0 p1 p2 p3 1)))) && (decide ((insV n0 n1 k0 k1 s0 s1 p0 p1 p2 p3 2) ≤ ((m : Int) % (outV n1 k1 s1 p1 p3)))))), .val ((bif ((((decide ((insV n0 n1 k0 k1 s0 s1 p0 p1 p2 p3 0) ≤ ((m : Int) / (outV n1 k1 s1 p1 p3)))) && (decide (((m : Int) / (outV n1 k1 s1 p1 p3)) < (insV n0 n1 k0 k1 s0 s1 p0 p1 p2 p3 1)))) && (decide ((insV n0 n1 k0 k1 s0 s1 p0 p1 p2 p3 2) ≤ ((m : Int) % (outV n1 k1 s1 p1 p3))))) == true) then (.int .i64 ((m : Int) % (outV n1 k1 s1 p1 p3))) else undef)), .val ((bif ((((decide ((insV n0 n1 k0 k1 s0 s1 p0 p1 p2 p3 0) ≤ ((m : Int) / (outV n1 k1 s1 p1 p3)))) && (decide (((m : Int) / (outV n1 k1 s1 p1 p3)) < (insV n0 n1 k0 k1 s0 s1 p0 p1 p2 p3 1)))) && (decide ((insV n0 n1 k0 k1 s0 s1 p0 p1 p2 p3 2) ≤ ((m : Int) % (outV n1 k1 s1 p1 p3))))) == true) then (.pointer (some ⟨g, 3, none⟩)) else undef)), .val ((bif ((((decide ((insV n0 n1 k0 k1 s0 s1 p0 p1 p2 p3 0) ≤ ((m : Int) / (outV n1 k1 s1 p1 p3)))) && (decide (((m : Int) / (outV n1 k1 s1 p1 p3)) < (insV n0 n1 k0 k1 s0 s1 p0 p1 p2 p3 1)))) && (decide ((insV n0 n1 k0 k1 s0 s1 p0 p1 p2 p3 2) ≤ ((m : Int) % (outV n1 k1 s1 p1 p3))))) == true) then (.int .i64 (insV n0 n1 k0 k1 s0 s1 p0 p1 p2 p3 3)) else undef)), .val ((bif ((((decide ((insV n0 n1 k0 k1 s0 s1 p0 p1 p2 p3 0) ≤ ((m : Int) / (outV n1 k1 s1 p1 p3)))) && (decide (((m : Int) / (outV n1 k1 s1 p1 p3)) < (insV n0 n1 k0 k1 s0 s1 p0 p1 p2 p3 1)))) && (decide ((insV n0 n1 k0 k1 s0 s1 p0 p1 p2 p3 2) ≤ ((m : Int) % (outV n1 k1 s1 p1 p3))))) == true) then (.bool (decide (((m : Int) % (outV n1 k1 s1 p1 p3)) < (insV n0 n1 k0 k1 s0 s1 p0 p1 p2 p3 3)))) else undef)), .val (.bool ((((decide ((insV n0 n1 k0 k1 s0 s1 p0 p1 p2 p3 0) ≤ ((m : Int) / (outV n1 k1 s1 p1 p3)))) && (decide (((m : Int) / (outV n1 k1 s1 p1 p3)) < (insV n0 n1 k0 k1 s0 s1 p0 p1 p2 p3 1)))) && (decide ((insV n0 n1 k0 k1 s0 s1 p0 p1 p2 p3 2) ≤ ((m : Int) % (outV n1 k1 s1 p1 p3))))) && (decide (((m : Int) % (outV n1 k1 s1 p1 p3)) < (insV n0 n1 k0 k1 s0 s1 p0 p1 p2 p3 3))))), .val (.bool false)] (fun W => WS n0 n1 k0 k1 s0 s1 p0 p1 p2 p3 w W ∧ W.heap[g]? = some (box4 (insV n0 n1 k0 k1 s0 s1 p0 p1 p2 p3 0) (insV n0 n1 k0 k1 s0 s1 p0 p1 p2 p3 1) (insV n0 n1 k0 k1 s0 s1 p0 p1 p2 p3 2) (insV n0 n1 k0 k1 s0 s1 p0 p1 p2 p3 3)) ∧ W.heap[g2]? = some (box2 (outV n0 k0 s0 p0 p2) (outV n1 k1 s1 p1 p3))) (by kernel_rfl) hG ?_ ?_
  · intro vs W hG b hb
    have e3 : b.eval (.tmp 3) = .pointer (some ⟨g, 0, none⟩) := (congrArg (fun x => Act.eval x (.tmp 3)) hb).trans ((fill_out _ 0 _ (by kernel_rfl)).trans rfl)
    have e7 : b.eval (.tmp 7) = .int .i64 ((m : Int) / (outV n1 k1 s1 p1 p3)) := (congrArg (fun x => Act.eval x (.tmp 7)) hb).trans ((fill_out _ 0 _ (by kernel_rfl)).trans rfl)
    have e8 : b.eval (.tmp 8) = .int .i64 ((m : Int) % (outV n1 k1 s1 p1 p3)) := (congrArg (fun x => Act.eval x (.tmp 8)) hb).trans ((fill_out _ 0 _ (by kernel_rfl)).trans rfl)
    have e9 : b.eval (.tmp 9) = .bool (((tapsL n0 n1 k1 s0 s1 p0 p1 ((m : Int) / (outV n1 k1 s1 p1 p3)) ((m : Int) % (outV n1 k1 s1 p1 p3)) (k0 * k1).toNat).length : Int) == k0 * k1) := (congrArg (fun x => Act.eval x (.tmp 9)) hb).trans ((fill_out _ 0 _ (by kernel_rfl)).trans rfl)
    have i88 : b.eval (.tmp 88) = vs 0 := (congrArg (fun x => Act.eval x (.tmp 88)) hb).trans ((fill_in _ 0 0 _ _ 88 (by kernel_rfl) rfl rfl (by simp)).trans (congrArg vs (Nat.zero_add _)))
    have i89 : b.eval (.tmp 89) = vs 1 := (congrArg (fun x => Act.eval x (.tmp 89)) hb).trans ((fill_in _ 0 1 _ _ 89 (by kernel_rfl) rfl rfl (by simp)).trans (congrArg vs (Nat.zero_add _)))
    have i90 : b.eval (.tmp 90) = vs 2 := (congrArg (fun x => Act.eval x (.tmp 90)) hb).trans ((fill_in _ 0 2 _ _ 90 (by kernel_rfl) rfl rfl (by simp)).trans (congrArg vs (Nat.zero_add _)))
    have i91 : b.eval (.tmp 91) = vs 3 := (congrArg (fun x => Act.eval x (.tmp 91)) hb).trans ((fill_in _ 0 3 _ _ 91 (by kernel_rfl) rfl rfl (by simp)).trans (congrArg vs (Nat.zero_add _)))
    have i92 : b.eval (.tmp 92) = vs 4 := (congrArg (fun x => Act.eval x (.tmp 92)) hb).trans ((fill_in _ 0 4 _ _ 92 (by kernel_rfl) rfl rfl (by simp)).trans (congrArg vs (Nat.zero_add _)))
    have i93 : b.eval (.tmp 93) = vs 5 := (congrArg (fun x => Act.eval x (.tmp 93)) hb).trans ((fill_in _ 0 5 _ _ 93 (by kernel_rfl) rfl rfl (by simp)).trans (congrArg vs (Nat.zero_add _)))
    have i94 : b.eval (.tmp 94) = vs 6 := (congrArg (fun x => Act.eval x (.tmp 94)) hb).trans ((fill_in _ 0 6 _ _ 94 (by kernel_rfl) rfl rfl (by simp)).trans (congrArg vs (Nat.zero_add _)))
    have i95 : b.eval (.tmp 95) = vs 7 := (congrArg (fun x => Act.eval x (.tmp 95)) hb).trans ((fill_in _ 0 7 _ _ 95 (by kernel_rfl) rfl rfl (by simp)).trans (congrArg vs (Nat.zero_add _)))
    have i96 : b.eval (.tmp 96) = vs 8 := (congrArg (fun x => Act.eval x (.tmp 96)) hb).trans ((fill_in _ 0 8 _ _ 96 (by kernel_rfl) rfl rfl (by simp)).trans (congrArg vs (Nat.zero_add _)))
    have i97 : b.eval (.tmp 97) = vs 9 := (congrArg (fun x => Act.eval x (.tmp 97)) hb).trans ((fill_in _ 0 9 _ _ 97 (by kernel_rfl) rfl rfl (by simp)).trans (congrArg vs (Nat.zero_add _)))
    have i98 : b.eval (.tmp 98) = vs 10 := (congrArg (fun x => Act.eval x (.tmp 98)) hb).trans ((fill_in _ 0 10 _ _ 98 (by kernel_rfl) rfl rfl (by simp)).trans (congrArg vs (Nat.zero_add _)))
    have i99 : b.eval (.tmp 99) = vs 11 := (congrArg (fun x => Act.eval x (.tmp 99)) hb).trans ((fill_in _ 0 11 _ _ 99 (by kernel_rfl) rfl rfl (by simp)).trans (congrArg vs (Nat.zero_add _)))
    have i100 : b.eval (.tmp 100) = vs 12 := (congrArg (fun x => Act.eval x (.tmp 100)) hb).trans ((fill_in _ 0 12 _ _ 100 (by kernel_rfl) rfl rfl (by simp)).trans (congrArg vs (Nat.zero_add _)))
    have i101 : b.eval (.tmp 101) = vs 13 := (congrArg (fun x => Act.eval x (.tmp 101)) hb).trans ((fill_in _ 0 13 _ _ 101 (by kernel_rfl) rfl rfl (by simp)).trans (congrArg vs (Nat.zero_add _)))
    have i102 : b.eval (.tmp 102) = vs 14 := (congrArg (fun x => Act.eval x (.tmp 102)) hb).trans ((fill_in _ 0 14 _ _ 102 (by kernel_rfl) rfl rfl (by simp)).trans (congrArg vs (Nat.zero_add _)))
    have i103 : b.eval (.tmp 103) = vs 15 := (congrArg (fun x => Act.eval x (.tmp 103)) hb).trans ((fill_in _ 0 15 _ _ 103 (by kernel_rfl) rfl rfl (by simp)).trans (congrArg vs (Nat.zero_add _)))
    have i104 : b.eval (.tmp 104) = vs 16 := (congrArg (fun x => Act.eval x (.tmp 104)) hb).trans ((fill_in _ 0 16 _ _ 104 (by kernel_rfl) rfl rfl (by simp)).trans (congrArg vs (Nat.zero_add _)))
    have i105 : b.eval (.tmp 105) = vs 17 := (congrArg (fun x => Act.eval x (.tmp 105)) hb).trans ((fill_in _ 0 17 _ _ 105 (by kernel_rfl) rfl rfl (by simp)).trans (congrArg vs (Nat.zero_add _)))
    have i106 : b.eval (.tmp 106) = vs 18 := (congrArg (fun x => Act.eval x (.tmp 106)) hb).trans ((fill_in _ 0 18 _ _ 106 (by kernel_rfl) rfl rfl (by simp)).trans (congrArg vs (Nat.zero_add _)))
    have i107 : b.eval (.tmp 107) = vs 19 := (congrArg (fun x => Act.eval x (.tmp 107)) hb).trans ((fill_in _ 0 19 _ _ 107 (by kernel_rfl) rfl rfl (by simp)).trans (congrArg vs (Nat.zero_add _)))
    have i108 : b.eval (.tmp 108) = vs 20 := (congrArg (fun x => Act.eval x (.tmp 108)) hb).trans ((fill_in _ 0 20 _ _ 108 (by kernel_rfl) rfl rfl (by simp)).trans (congrArg vs (Nat.zero_add _)))
    have i109 : b.eval (.tmp 109) = vs 21 := (congrArg (fun x => Act.eval x (.tmp 109)) hb).trans ((fill_in _ 0 21 _ _ 109 (by kernel_rfl) rfl rfl (by simp)).trans (congrArg vs (Nat.zero_add _)))
    have i110 : b.eval (.tmp 110) = vs 22 := (congrArg (fun x => Act.eval x (.tmp 110)) hb).trans ((fill_in _ 0 22 _ _ 110 (by kernel_rfl) rfl rfl (by simp)).trans (congrArg vs (Nat.zero_add _)))
    clear hb
    refine And.intro ?_ (And.intro ?_ (And.intro ?_ (And.intro ?_ (And.intro ?_ (And.intro ?_ (And.intro ?_ (And.intro ?_ (And.intro ?_ (And.intro ?_ (And.intro ?_ (And.intro ?_ (And.intro ?_ (And.intro ?_ (And.intro ?_ (And.intro ?_ (And.intro ?_ (And.intro ?_ (And.intro ?_ (And.intro ?_ (And.intro ?_ (And.intro ?_ (And.intro ?_ (And.intro ?_ (trivial))))))))))))))))))))))))
    · intro hp K hK
      refine g_no rfl ?_
      exact st_move (.inl rfl) (e9) (hK _ _ rfl hG (Below.refl _ _))
    · intro hp K hK
      refine g_no rfl ?_
      exact st_move (.inl rfl) (e7) (hK _ _ rfl hG (Below.refl _ _))
    · intro hp K hK
      refine g_no rfl ?_
      exact st_index rfl (e3) (eval_const _) (by kernel_rfl) (hK _ _ rfl hG (Below.refl _ _))
    · intro hp K hK
      refine g_no rfl ?_
      have e90 : b.eval (.tmp 90) = .pointer (some ⟨g, 0, none⟩) := i90.trans (hp 2 (by kernel_rfl))
      exact st_load rfl (e90) (ld1 ((blk_cell hG.2.1 0).trans rfl)) (hK _ _ rfl hG (Below.refl _ _))
    · intro hp K hK
      refine g_no rfl ?_
      have e89 : b.eval (.tmp 89) = .int .i64 ((m : Int) / (outV n1 k1 s1 p1 p3)) := i89.trans (hp 1 (by kernel_rfl))
      have e91 : b.eval (.tmp 91) = .int .i64 (insV n0 n1 k0 k1 s0 s1 p0 p1 p2 p3 0) := i91.trans (hp 3 (by kernel_rfl))
      exact st_bin rfl (e89) (e91) b_geq (hK _ _ rfl hG (Below.refl _ _))
    · intro hp K hK
      refine g_no rfl ?_
      have e92 : b.eval (.tmp 92) = .bool (decide ((insV n0 n1 k0 k1 s0 s1 p0 p1 p2 p3 0) ≤ ((m : Int) / (outV n1 k1 s1 p1 p3)))) := i92.trans (hp 4 (by kernel_rfl))
      exact st_move (.inl rfl) (e92) (hK _ _ rfl hG (Below.refl _ _))
    · intro hp K hK
      refine g_is (j := 5) (want := true) (c := decide ((insV n0 n1 k0 k1 s0 s1 p0 p1 p2 p3 0) ≤ ((m : Int) / (outV n1 k1 s1 p1 p3)))) rfl (yielded_of (d := 93) rfl rfl (i93.trans (hp 5 (by kernel_rfl)))) (fun hb => ?_) (fun hb => hK _ _ (cond_no hb) hG (Below.refl _ _))
      exact st_move (.inl rfl) (e7) (hK _ _ (cond_yes hb).symm hG (Below.refl _ _))
    · intro hp K hK
      refine g_is (j := 5) (want := true) (c := decide ((insV n0 n1 k0 k1 s0 s1 p0 p1 p2 p3 0) ≤ ((m : Int) / (outV n1 k1 s1 p1 p3)))) rfl (yielded_of (d := 93) rfl rfl (i93.trans (hp 5 (by kernel_rfl)))) (fun hb => ?_) (fun hb => hK _ _ (cond_no hb) hG (Below.refl _ _))
      exact st_index rfl (e3) (eval_const _) (by kernel_rfl) (hK _ _ (cond_yes hb).symm hG (Below.refl _ _))
    · intro hp K hK
      refine g_is (j := 5) (want := true) (c := decide ((insV n0 n1 k0 k1 s0 s1 p0 p1 p2 p3 0) ≤ ((m : Int) / (outV n1 k1 s1 p1 p3)))) rfl (yielded_of (d := 93) rfl rfl (i93.trans (hp 5 (by kernel_rfl)))) (fun hb => ?_) (fun hb => hK _ _ (cond_no hb) hG (Below.refl _ _))
      have e95 : b.eval (.tmp 95) = (bif ((decide ((insV n0 n1 k0 k1 s0 s1 p0 p1 p2 p3 0) ≤ ((m : Int) / (outV n1 k1 s1 p1 p3)))) == true) then (.pointer (some ⟨g, 1, none⟩)) else undef) := i95.trans (hp 7 (by kernel_rfl))
      replace e95 := e95.trans (cond_yes hb)
      exact st_load rfl (e95) (ld1 ((blk_cell hG.2.1 1).trans rfl)) (hK _ _ (cond_yes hb).symm hG (Below.refl _ _))
    · intro hp K hK
      refine g_is (j := 5) (want := true) (c := decide ((insV n0 n1 k0 k1 s0 s1 p0 p1 p2 p3 0) ≤ ((m : Int) / (outV n1 k1 s1 p1 p3)))) rfl (yielded_of (d := 93) rfl rfl (i93.trans (hp 5 (by kernel_rfl)))) (fun hb => ?_) (fun hb => hK _ _ (cond_no hb) hG (Below.refl _ _))
      have e94 : b.eval (.tmp 94) = (bif ((decide ((insV n0 n1 k0 k1 s0 s1 p0 p1 p2 p3 0) ≤ ((m : Int) / (outV n1 k1 s1 p1 p3)))) == true) then (.int .i64 ((m : Int) / (outV n1 k1 s1 p1 p3))) else undef) := i94.trans (hp 6 (by kernel_rfl))
      replace e94 := e94.trans (cond_yes hb)
      have e96 : b.eval (.tmp 96) = (bif ((decide ((insV n0 n1 k0 k1 s0 s1 p0 p1 p2 p3 0) ≤ ((m : Int) / (outV n1 k1 s1 p1 p3)))) == true) then (.int .i64 (insV n0 n1 k0 k1 s0 s1 p0 p1 p2 p3 1)) else undef) := i96.trans (hp 8 (by kernel_rfl))
      replace e96 := e96.trans (cond_yes hb)
      exact st_bin rfl (e94) (e96) b_lss (hK _ _ (cond_yes hb).symm hG (Below.refl _ _))
    · intro hp K hK
      refine g_no rfl ?_
      have e93 : b.eval (.tmp 93) = .bool (decide ((insV n0 n1 k0 k1 s0 s1 p0 p1 p2 p3 0) ≤ ((m : Int) / (outV n1 k1 s1 p1 p3)))) := i93.trans (hp 5 (by kernel_rfl))
      have e97 : b.eval (.tmp 97) = (bif ((decide ((insV n0 n1 k0 k1 s0 s1 p0 p1 p2 p3 0) ≤ ((m : Int) / (outV n1 k1 s1 p1 p3)))) == true) then (.bool (decide (((m : Int) / (outV n1 k1 s1 p1 p3)) < (insV n0 n1 k0 k1 s0 s1 p0 p1 p2 p3 1)))) else undef) := i97.trans (hp 9 (by kernel_rfl))
      exact st_pick rfl (e93) (by first | (rw [e97]; exact pick_and) | (rw [show b.eval (Operand.tmp 97) = _ from eval_const _]; exact pick_and)) (hK _ _ rfl hG (Below.refl _ _))
    · intro hp K hK
      refine g_no rfl ?_
      have e98 : b.eval (.tmp 98) = .bool ((decide ((insV n0 n1 k0 k1 s0 s1 p0 p1 p2 p3 0) ≤ ((m : Int) / (outV n1 k1 s1 p1 p3)))) && (decide (((m : Int) / (outV n1 k1 s1 p1 p3)) < (insV n0 n1 k0 k1 s0 s1 p0 p1 p2 p3 1)))) := i98.trans (hp 10 (by kernel_rfl))
      exact st_move (.inl rfl) (e98) (hK _ _ rfl hG (Below.refl _ _))
    · intro hp K hK
      refine g_is (j := 11) (want := true) (c := (decide ((insV n0 n1 k0 k1 s0 s1 p0 p1 p2 p3 0) ≤ ((m : Int) / (outV n1 k1 s1 p1 p3)))) && (decide (((m : Int) / (outV n1 k1 s1 p1 p3)) < (insV n0 n1 k0 k1 s0 s1 p0 p1 p2 p3 1)))) rfl (yielded_of (d := 99) rfl rfl (i99.trans (hp 11 (by kernel_rfl)))) (fun hb => ?_) (fun hb => hK _ _ (cond_no hb) hG (Below.refl _ _))
      exact st_move (.inl rfl) (e8) (hK _ _ (cond_yes hb).symm hG (Below.refl _ _))
    · intro hp K hK
      refine g_is (j := 11) (want := true) (c := (decide ((insV n0 n1 k0 k1 s0 s1 p0 p1 p2 p3 0) ≤ ((m : Int) / (outV n1 k1 s1 p1 p3)))) && (decide (((m : Int) / (outV n1 k1 s1 p1 p3)) < (insV n0 n1 k0 k1 s0 s1 p0 p1 p2 p3 1)))) rfl (yielded_of (d := 99) rfl rfl (i99.trans (hp 11 (by kernel_rfl)))) (fun hb => ?_) (fun hb => hK _ _ (cond_no hb) hG (Below.refl _ _))
      exact st_index rfl (e3) (eval_const _) (by kernel_rfl) (hK _ _ (cond_yes hb).symm hG (Below.refl _ _))
    · intro hp K hK
      refine g_is (j := 11) (want := true) (c := (decide ((insV n0 n1 k0 k1 s0 s1 p0 p1 p2 p3 0) ≤ ((m : Int) / (outV n1 k1 s1 p1 p3)))) && (decide (((m : Int) / (outV n1 k1 s1 p1 p3)) < (insV n0 n1 k0 k1 s0 s1 p0 p1 p2 p3 1)))) rfl (yielded_of (d := 99) rfl rfl (i99.trans (hp 11 (by kernel_rfl)))) (fun hb => ?_) (fun hb => hK _ _ (cond_no hb) hG (Below.refl _ _))
      have e101 : b.eval (.tmp 101) = (bif (((decide ((insV n0 n1 k0 k1 s0 s1 p0 p1 p2 p3 0) ≤ ((m : Int) / (outV n1 k1 s1 p1 p3)))) && (decide (((m : Int) / (outV n1 k1 s1 p1 p3)) < (insV n0 n1 k0 k1 s0 s1 p0 p1 p2 p3 1)))) == true) then (.pointer (some ⟨g, 2, none⟩)) else undef) := i101.trans (hp 13 (by kernel_rfl))
      replace e101 := e101.trans (cond_yes hb)
      exact st_load rfl (e101) (ld1 ((blk_cell hG.2.1 2).trans rfl)) (hK _ _ (cond_yes hb).symm hG (Below.refl _ _))
    · intro hp K hK
      refine g_is (j := 11) (want := true) (c := (decide ((insV n0 n1 k0 k1 s0 s1 p0 p1 p2 p3 0) ≤ ((m : Int) / (outV n1 k1 s1 p1 p3)))) && (decide (((m : Int) / (outV n1 k1 s1 p1 p3)) < (insV n0 n1 k0 k1 s0 s1 p0 p1 p2 p3 1)))) rfl (yielded_of (d := 99) rfl rfl (i99.trans (hp 11 (by kernel_rfl)))) (fun hb => ?_) (fun hb => hK _ _ (cond_no hb) hG (Below.refl _ _))
      have e100 : b.eval (.tmp 100) = (bif (((decide ((insV n0 n1 k0 k1 s0 s1 p0 p1 p2 p3 0) ≤ ((m : Int) / (outV n1 k1 s1 p1 p3)))) && (decide (((m : Int) / (outV n1 k1 s1 p1 p3)) < (insV n0 n1 k0 k1 s0 s1 p0 p1 p2 p3 1)))) == true) then (.int .i64 ((m : Int) % (outV n1 k1 s1 p1 p3))) else undef) := i100.trans (hp 12 (by kernel_rfl))
      replace e100 := e100.trans (cond_yes hb)
      have e102 : b.eval (.tmp 102) = (bif (((decide ((insV n0 n1 k0 k1 s0 s1 p0 p1 p2 p3 0) ≤ ((m : Int) / (outV n1 k1 s1 p1 p3)))) && (decide (((m : Int) / (outV n1 k1 s1 p1 p3)) < (insV n0 n1 k0 k1 s0 s1 p0 p1 p2 p3 1)))) == true) then (.int .i64 (insV n0 n1 k0 k1 s0 s1 p0 p1 p2 p3 2)) else undef) := i102.trans (hp 14 (by kernel_rfl))
      replace e102 := e102.trans (cond_yes hb)
      exact st_bin rfl (e100) (e102) b_geq (hK _ _ (cond_yes hb).symm hG (Below.refl _ _))
    · intro hp K hK
      refine g_no rfl ?_
      have e99 : b.eval (.tmp 99) = .bool ((decide ((insV n0 n1 k0 k1 s0 s1 p0 p1 p2 p3 0) ≤ ((m : Int) / (outV n1 k1 s1 p1 p3)))) && (decide (((m : Int) / (outV n1 k1 s1 p1 p3)) < (insV n0 n1 k0 k1 s0 s1 p0 p1 p2 p3 1)))) := i99.trans (hp 11 (by kernel_rfl))
      have e103 : b.eval (.tmp 103) = (bif (((decide ((insV n0 n1 k0 k1 s0 s1 p0 p1 p2 p3 0) ≤ ((m : Int) / (outV n1 k1 s1 p1 p3)))) && (decide (((m : Int) / (outV n1 k1 s1 p1 p3)) < (insV n0 n1 k0 k1 s0 s1 p0 p1 p2 p3 1)))) == true) then (.bool (decide ((insV n0 n1 k0 k1 s0 s1 p0 p1 p2 p3 2) ≤ ((m : Int) % (outV n1 k1 s1 p1 p3))))) else undef) := i103.trans (hp 15 (by kernel_rfl))
      exact st_pick rfl (e99) (by first | (rw [e103]; exact pick_and) | (rw [show b.eval (Operand.tmp 103) = _ from eval_const _]; exact pick_and)) (hK _ _ rfl hG (Below.refl _ _))
    · intro hp K hK
      refine g_no rfl ?_
      have e104 : b.eval (.tmp 104) = .bool (((decide ((insV n0 n1 k0 k1 s0 s1 p0 p1 p2 p3 0) ≤ ((m : Int) / (outV n1 k1 s1 p1 p3)))) && (decide (((m : Int) / (outV n1 k1 s1 p1 p3)) < (insV n0 n1 k0 k1 s0 s1 p0 p1 p2 p3 1)))) && (decide ((insV n0 n1 k0 k1 s0 s1 p0 p1 p2 p3 2) ≤ ((m : Int) % (outV n1 k1 s1 p1 p3))))) := i104.trans (hp 16 (by kernel_rfl))
      exact st_move (.inl rfl) (e104) (hK _ _ rfl hG (Below.refl _ _))
    · intro hp K hK
      refine g_is (j := 17) (want := true) (c := ((decide ((insV n0 n1 k0 k1 s0 s1 p0 p1 p2 p3 0) ≤ ((m : Int) / (outV n1 k1 s1 p1 p3)))) && (decide (((m : Int) / (outV n1 k1 s1 p1 p3)) < (insV n0 n1 k0 k1 s0 s1 p0 p1 p2 p3 1)))) && (decide ((insV n0 n1 k0 k1 s0 s1 p0 p1 p2 p3 2) ≤ ((m : Int) % (outV n1 k1 s1 p1 p3))))) rfl (yielded_of (d := 105) rfl rfl (i105.trans (hp 17 (by kernel_rfl)))) (fun hb => ?_) (fun hb => hK _ _ (cond_no hb) hG (Below.refl _ _))
      exact st_move (.inl rfl) (e8) (hK _ _ (cond_yes hb).symm hG (Below.refl _ _))
    · intro hp K hK
      refine g_is (j := 17) (want := true) (c := ((decide ((insV n0 n1 k0 k1 s0 s1 p0 p1 p2 p3 0) ≤ ((m : Int) / (outV n1 k1 s1 p1 p3)))) && (decide (((m : Int) / (outV n1 k1 s1 p1 p3)) < (insV n0 n1 k0 k1 s0 s1 p0 p1 p2 p3 1)))) && (decide ((insV n0 n1 k0 k1 s0 s1 p0 p1 p2 p3 2) ≤ ((m : Int) % (outV n1 k1 s1 p1 p3))))) rfl (yielded_of (d := 105) rfl rfl (i105.trans (hp 17 (by kernel_rfl)))) (fun hb => ?_) (fun hb => hK _ _ (cond_no hb) hG (Below.refl _ _))
      exact st_index rfl (e3) (eval_const _) (by kernel_rfl) (hK _ _ (cond_yes hb).symm hG (Below.refl _ _))
    · intro hp K hK
      refine g_is (j := 17) (want := true) (c := ((decide ((insV n0 n1 k0 k1 s0 s1 p0 p1 p2 p3 0) ≤ ((m : Int) / (outV n1 k1 s1 p1 p3)))) && (decide (((m : Int) / (outV n1 k1 s1 p1 p3)) < (insV n0 n1 k0 k1 s0 s1 p0 p1 p2 p3 1)))) && (decide ((insV n0 n1 k0 k1 s0 s1 p0 p1 p2 p3 2) ≤ ((m : Int) % (outV n1 k1 s1 p1 p3))))) rfl (yielded_of (d := 105) rfl rfl (i105.trans (hp 17 (by kernel_rfl)))) (fun hb => ?_) (fun hb => hK _ _ (cond_no hb) hG (Below.refl _ _))
      have e107 : b.eval (.tmp 107) = (bif ((((decide ((insV n0 n1 k0 k1 s0 s1 p0 p1 p2 p3 0) ≤ ((m : Int) / (outV n1 k1 s1 p1 p3)))) && (decide (((m : Int) / (outV n1 k1 s1 p1 p3)) < (insV n0 n1 k0 k1 s0 s1 p0 p1 p2 p3 1)))) && (decide ((insV n0 n1 k0 k1 s0 s1 p0 p1 p2 p3 2) ≤ ((m : Int) % (outV n1 k1 s1 p1 p3))))) == true) then (.pointer (some ⟨g, 3, none⟩)) else undef) := i107.trans (hp 19 (by kernel_rfl))
      replace e107 := e107.trans (cond_yes hb)
      exact st_load rfl (e107) (ld1 ((blk_cell hG.2.1 3).trans rfl)) (hK _ _ (cond_yes hb).symm hG (Below.refl _ _))
    · intro hp K hK
      refine g_is (j := 17) (want := true) (c := ((decide ((insV n0 n1 k0 k1 s0 s1 p0 p1 p2 p3 0) ≤ ((m : Int) / (outV n1 k1 s1 p1 p3)))) && (decide (((m : Int) / (outV n1 k1 s1 p1 p3)) < (insV n0 n1 k0 k1 s0 s1 p0 p1 p2 p3 1)))) && (decide ((insV n0 n1 k0 k1 s0 s1 p0 p1 p2 p3 2) ≤ ((m : Int) % (outV n1 k1 s1 p1 p3))))) rfl (yielded_of (d := 105) rfl rfl (i105.trans (hp 17 (by kernel_rfl)))) (fun hb => ?_) (fun hb => hK _ _ (cond_no hb) hG (Below.refl _ _))
      have e106 : b.eval (.tmp 106) = (bif ((((decide ((insV n0 n1 k0 k1 s0 s1 p0 p1 p2 p3 0) ≤ ((m : Int) / (outV n1 k1 s1 p1 p3)))) && (decide (((m : Int) / (outV n1 k1 s1 p1 p3)) < (insV n0 n1 k0 k1 s0 s1 p0 p1 p2 p3 1)))) && (decide ((insV n0 n1 k0 k1 s0 s1 p0 p1 p2 p3 2) ≤ ((m : Int) % (outV n1 k1 s1 p1 p3))))) == true) then (.int .i64 ((m : Int) % (outV n1 k1 s1 p1 p3))) else undef) := i106.trans (hp 18 (by kernel_rfl))
      replace e106 := e106.trans (cond_yes hb)
      have e108 : b.eval (.tmp 108) = (bif ((((decide ((insV n0 n1 k0 k1 s0 s1 p0 p1 p2 p3 0) ≤ ((m : Int) / (outV n1 k1 s1 p1 p3)))) && (decide (((m : Int) / (outV n1 k1 s1 p1 p3)) < (insV n0 n1 k0 k1 s0 s1 p0 p1 p2 p3 1)))) && (decide ((insV n0 n1 k0 k1 s0 s1 p0 p1 p2 p3 2) ≤ ((m : Int) % (outV n1 k1 s1 p1 p3))))) == true) then (.int .i64 (insV n0 n1 k0 k1 s0 s1 p0 p1 p2 p3 3)) else undef) := i108.trans (hp 20 (by kernel_rfl))
      replace e108 := e108.trans (cond_yes hb)
      exact st_bin rfl (e106) (e108) b_lss (hK _ _ (cond_yes hb).symm hG (Below.refl _ _))
    · intro hp K hK
      refine g_no rfl ?_
      have e105 : b.eval (.tmp 105) = .bool (((decide ((insV n0 n1 k0 k1 s0 s1 p0 p1 p2 p3 0) ≤ ((m : Int) / (outV n1 k1 s1 p1 p3)))) && (decide (((m : Int) / (outV n1 k1 s1 p1 p3)) < (insV n0 n1 k0 k1 s0 s1 p0 p1 p2 p3 1)))) && (decide ((insV n0 n1 k0 k1 s0 s1 p0 p1 p2 p3 2) ≤ ((m : Int) % (outV n1 k1 s1 p1 p3))))) := i105.trans (hp 17 (by kernel_rfl))
      have e109 : b.eval (.tmp 109) = (bif ((((decide ((insV n0 n1 k0 k1 s0 s1 p0 p1 p2 p3 0) ≤ ((m : Int) / (outV n1 k1 s1 p1 p3)))) && (decide (((m : Int) / (outV n1 k1 s1 p1 p3)) < (insV n0 n1 k0 k1 s0 s1 p0 p1 p2 p3 1)))) && (decide ((insV n0 n1 k0 k1 s0 s1 p0 p1 p2 p3 2) ≤ ((m : Int) % (outV n1 k1 s1 p1 p3))))) == true) then (.bool (decide (((m : Int) % (outV n1 k1 s1 p1 p3)) < (insV n0 n1 k0 k1 s0 s1 p0 p1 p2 p3 3)))) else undef) := i109.trans (hp 21 (by kernel_rfl))
      exact st_pick rfl (e105) (by first | (rw [e109]; exact pick_and) | (rw [show b.eval (Operand.tmp 109) = _ from eval_const _]; exact pick_and)) (hK _ _ rfl hG (Below.refl _ _))
    · intro hp K hK
      refine g_no rfl ?_
      have e88 : b.eval (.tmp 88) = .bool (((tapsL n0 n1 k1 s0 s1 p0 p1 ((m : Int) / (outV n1 k1 s1 p1 p3)) ((m : Int) % (outV n1 k1 s1 p1 p3)) (k0 * k1).toNat).length : Int) == k0 * k1) := i88.trans (hp 0 (by kernel_rfl))
      have e110 : b.eval (.tmp 110) = .bool ((((decide ((insV n0 n1 k0 k1 s0 s1 p0 p1 p2 p3 0) ≤ ((m : Int) / (outV n1 k1 s1 p1 p3)))) && (decide (((m : Int) / (outV n1 k1 s1 p1 p3)) < (insV n0 n1 k0 k1 s0 s1 p0 p1 p2 p3 1)))) && (decide ((insV n0 n1 k0 k1 s0 s1 p0 p1 p2 p3 2) ≤ ((m : Int) % (outV n1 k1 s1 p1 p3))))) && (decide (((m : Int) % (outV n1 k1 s1 p1 p3)) < (insV n0 n1 k0 k1 s0 s1 p0 p1 p2 p3 3)))) := i110.trans (hp 22 (by kernel_rfl))
      exact st_bin rfl (e88) (e110) (b_neqb hIF.out) (hK _ _ rfl hG (Below.refl _ _))
  intro vs W hG hp b hb
  have q23 : vs 23 = .bool false := hp 23 (by decide)
  clear hp
  simp only [fill, Act.put, List.append_eq, List.cons_append, List.nil_append, List.take_succ_cons, List.take_zero, List.setIfInBounds_toArray, List.set_cons_succ, List.set_cons_zero, Nat.reduceAdd, Nat.zero_add, q23] at hb
  subst hb
  refine wpList_nil ?_
  clear q23
  refine HK14.out _ _ ?_
  clear HK14
  apply wp_cond_false rfl
  apply wp_skip
  simp only [Exit.inBlock, Exit.then]
  refine HK11.out _ _ ?_
  clear HK11
  have hl : IntKind.i64.wrap ((m : Int) + 1) = (m : Int) + 1 := IntWalk.i64_in _ (by have := HO.out; omega)
  have hG := Lib.hid hG
  have hlt := Lib.hid hlt
  go_wp2
  refine ⟨loop_frame (by kernel_rfl), ⟨m + 1, by show Value.int .i64 _ = _; simp, by have := hlt.out; omega, hG.out⟩, ?_⟩
  show ((outV n0 k0 s0 p0 p2) * (outV n1 k1 s1 p1 p3) - intOf (.int .i64 ((m : Int) + 1))).toNat < ((outV n0 k0 s0 p0 p2) * (outV n1 k1 s1 p1 p3) - intOf (.int .i64 (m : Int))).toNat
  have := hlt.out
  simp only [intOf]
  omega
set_option maxHeartbeats 8000000 in
theorem inside_bad (n0 n1 k0 k1 s0 s1 p0 p1 p2 p3 : Int) (w : World) (h : goodV n0 n1 k0 k1 s0 s1 p0 p1 p2 p3 = false) : Calls Try.prog 8 #[.agg #[.int .i64 n0, .int .i64 n1, .int .i64 k0, .int .i64 k1, .int .i64 s0, .int .i64 s1, .int .i64 p0, .int .i64 p1, .int .i64 p2, .int .i64 p3]] w (fun e w' => e = .returned (.bool true) ∧ Below w.heap.size w w') := by
  have H := Lib.hid h
  clear h
  have J := Lib.hid (WS.start n0 n1 k0 k1 s0 s1 p0 p1 p2 p3 w)
  go_enter Try.func8, Try.ntmps8
  apply wp_seq_k
  intro K1 hK1
  have HK1 := Lib.hid hK1
  clear hK1
  go_wp2
  refine HK1.out _ _ ?_
  clear HK1
  generalize w.alloc (win n0 n1 k0 k1 s0 s1 p0 p1 p2 p3) = u0 at *
  replace J := J.out
  apply wp_seq_k
  intro K2 hK2
  have HK2 := Lib.hid hK2
  clear hK2
  refine wp_listed (R := fun W W' => Below W.heap.size W W') 13 [.val (.pointer (some ⟨w.heap.size, 0, none⟩)), .val (.agg #[.int .i64 n0, .int .i64 n1]), .val (.pointer (some ⟨w.heap.size, 2, none⟩)), .val (.agg #[.int .i64 k0, .int .i64 k1]), .val (.pointer (some ⟨w.heap.size, 4, none⟩)), .val (.agg #[.int .i64 s0, .int .i64 s1]), .val (.pointer (some ⟨w.heap.size, 6, none⟩)), .val (.agg #[.int .i64 p0, .int .i64 p1, .int .i64 p2, .int .i64 p3]), .val (.tuple #[.agg #[.int .i64 0, .int .i64 0, .int .i64 0, .int .i64 0], .bool false]), .val (.tuple #[.agg #[.int .i64 0, .int .i64 0, .int .i64 0, .int .i64 0], .bool false]), .val (.agg #[.int .i64 0, .int .i64 0, .int .i64 0, .int .i64 0]), .val (.bool false), newSpec (box4 0 0 0 0) (w.heap.size + 1)] (fun W => WS n0 n1 k0 k1 s0 s1 p0 p1 p2 p3 w W) (by kernel_rfl) J ?_ ?_
  · intro vs W hG b hb
    have e1 : b.eval (.tmp 1) = .pointer (some ⟨w.heap.size, 0, none⟩) := (congrArg (fun x => Act.eval x (.tmp 1)) hb).trans ((fill_out _ 0 _ (by kernel_rfl)).trans rfl)
    have i10 : b.eval (.tmp 10) = vs 9 := (congrArg (fun x => Act.eval x (.tmp 10)) hb).trans ((fill_in _ 0 9 _ _ 10 (by kernel_rfl) rfl rfl (by simp)).trans (congrArg vs (Nat.zero_add _)))
    have i11 : b.eval (.tmp 11) = vs 0 := (congrArg (fun x => Act.eval x (.tmp 11)) hb).trans ((fill_in _ 0 0 _ _ 11 (by kernel_rfl) rfl rfl (by simp)).trans (congrArg vs (Nat.zero_add _)))
    have i12 : b.eval (.tmp 12) = vs 1 := (congrArg (fun x => Act.eval x (.tmp 12)) hb).trans ((fill_in _ 0 1 _ _ 12 (by kernel_rfl) rfl rfl (by simp)).trans (congrArg vs (Nat.zero_add _)))
    have i13 : b.eval (.tmp 13) = vs 2 := (congrArg (fun x => Act.eval x (.tmp 13)) hb).trans ((fill_in _ 0 2 _ _ 13 (by kernel_rfl) rfl rfl (by simp)).trans (congrArg vs (Nat.zero_add _)))
    have i14 : b.eval (.tmp 14) = vs 3 := (congrArg (fun x => Act.eval x (.tmp 14)) hb).trans ((fill_in _ 0 3 _ _ 14 (by kernel_rfl) rfl rfl (by simp)).trans (congrArg vs (Nat.zero_add _)))
    have i15 : b.eval (.tmp 15) = vs 4 := (congrArg (fun x => Act.eval x (.tmp 15)) hb).trans ((fill_in _ 0 4 _ _ 15 (by kernel_rfl) rfl rfl (by simp)).trans (congrArg vs (Nat.zero_add _)))
    have i16 : b.eval (.tmp 16) = vs 5 := (congrArg (fun x => Act.eval x (.tmp 16)) hb).trans ((fill_in _ 0 5 _ _ 16 (by kernel_rfl) rfl rfl (by simp)).trans (congrArg vs (Nat.zero_add _)))
    have i17 : b.eval (.tmp 17) = vs 6 := (congrArg (fun x => Act.eval x (.tmp 17)) hb).trans ((fill_in _ 0 6 _ _ 17 (by kernel_rfl) rfl rfl (by simp)).trans (congrArg vs (Nat.zero_add _)))
    have i18 : b.eval (.tmp 18) = vs 7 := (congrArg (fun x => Act.eval x (.tmp 18)) hb).trans ((fill_in _ 0 7 _ _ 18 (by kernel_rfl) rfl rfl (by simp)).trans (congrArg vs (Nat.zero_add _)))
    have i19 : b.eval (.tmp 19) = vs 8 := (congrArg (fun x => Act.eval x (.tmp 19)) hb).trans ((fill_in _ 0 8 _ _ 19 (by kernel_rfl) rfl rfl (by simp)).trans (congrArg vs (Nat.zero_add _)))
    clear hb
    refine And.intro ?_ (And.intro ?_ (And.intro ?_ (And.intro ?_ (And.intro ?_ (And.intro ?_ (And.intro ?_ (And.intro ?_ (And.intro ?_ (And.intro ?_ (And.intro ?_ (And.intro ?_ (And.intro ?_ (trivial)))))))))))))
    · intro hp K hK
      refine g_no rfl ?_
      exact st_field rfl (e1) (by kernel_rfl) (hK _ _ rfl hG (Below.refl _ _))
    · intro hp K hK
      refine g_no rfl ?_
      have e11 : b.eval (.tmp 11) = .pointer (some ⟨w.heap.size, 0, none⟩) := i11.trans (hp 0 (by kernel_rfl))
      exact st_load rfl (e11) (ldw0 hG.b0) (hK _ _ rfl hG (Below.refl _ _))
    · intro hp K hK
      refine g_no rfl ?_
      exact st_field rfl (e1) (by kernel_rfl) (hK _ _ rfl hG (Below.refl _ _))
    · intro hp K hK
      refine g_no rfl ?_
      have e13 : b.eval (.tmp 13) = .pointer (some ⟨w.heap.size, 2, none⟩) := i13.trans (hp 2 (by kernel_rfl))
      exact st_load rfl (e13) (ldw2 hG.b0) (hK _ _ rfl hG (Below.refl _ _))
    · intro hp K hK
      refine g_no rfl ?_
      exact st_field rfl (e1) (by kernel_rfl) (hK _ _ rfl hG (Below.refl _ _))
    · intro hp K hK
      refine g_no rfl ?_
      have e15 : b.eval (.tmp 15) = .pointer (some ⟨w.heap.size, 4, none⟩) := i15.trans (hp 4 (by kernel_rfl))
      exact st_load rfl (e15) (ldw4 hG.b0) (hK _ _ rfl hG (Below.refl _ _))
    · intro hp K hK
      refine g_no rfl ?_
      exact st_field rfl (e1) (by kernel_rfl) (hK _ _ rfl hG (Below.refl _ _))
    · intro hp K hK
      refine g_no rfl ?_
      have e17 : b.eval (.tmp 17) = .pointer (some ⟨w.heap.size, 6, none⟩) := i17.trans (hp 6 (by kernel_rfl))
      exact st_load rfl (e17) (ldw6 hG.b0) (hK _ _ rfl hG (Below.refl _ _))
    · intro hp K hK
      refine g_no rfl ?_
      have e12 : b.eval (.tmp 12) = .agg #[.int .i64 n0, .int .i64 n1] := i12.trans (hp 1 (by kernel_rfl))
      have e14 : b.eval (.tmp 14) = .agg #[.int .i64 k0, .int .i64 k1] := i14.trans (hp 3 (by kernel_rfl))
      have e16 : b.eval (.tmp 16) = .agg #[.int .i64 s0, .int .i64 s1] := i16.trans (hp 5 (by kernel_rfl))
      have e18 : b.eval (.tmp 18) = .agg #[.int .i64 p0, .int .i64 p1, .int .i64 p2, .int .i64 p3] := i18.trans (hp 7 (by kernel_rfl))
      refine st_call rfl (by first | (simp only [List.map_toArray, List.map_cons, List.map_nil, eval_const, e12, e14, e16, e18]; done) | (simp only [List.map_toArray, List.map_cons, List.map_nil, eval_const, e12, e14, e16, e18]; rfl)) (by kernel_rfl) ?_
      refine (Inside_bad n0 n1 k0 k1 s0 s1 p0 p1 p2 p3 _ H.out).mono ?_
      rintro e w' ⟨rfl, hb'⟩
      exact ⟨_, rfl, hK _ _ rfl (hG.step hb') hb'⟩
    · intro hp K hK
      refine g_no rfl ?_
      have e19 : b.eval (.tmp 19) = .tuple #[.agg #[.int .i64 0, .int .i64 0, .int .i64 0, .int .i64 0], .bool false] := i19.trans (hp 8 (by kernel_rfl))
      exact st_move (.inl rfl) (e19) (hK _ _ rfl hG (Below.refl _ _))
    · intro hp K hK
      refine g_no rfl ?_
      have e10 : b.eval (.tmp 10) = .tuple #[.agg #[.int .i64 0, .int .i64 0, .int .i64 0, .int .i64 0], .bool false] := i10.trans (hp 9 (by kernel_rfl))
      exact st_extract rfl (e10) (by kernel_rfl) (hK _ _ rfl hG (Below.refl _ _))
    · intro hp K hK
      refine g_no rfl ?_
      have e10 : b.eval (.tmp 10) = .tuple #[.agg #[.int .i64 0, .int .i64 0, .int .i64 0, .int .i64 0], .bool false] := i10.trans (hp 9 (by kernel_rfl))
      exact st_extract rfl (e10) (by kernel_rfl) (hK _ _ rfl hG (Below.refl _ _))
    · intro hp K hK
      refine g_no rfl ?_
      exact st_alloc rfl (new4 _) (hK _ _ ⟨_, rfl, blk_new _ _, hG.size⟩ (hG.alloc _) ((Below.refl _ _).alloc (Nat.le_refl _) _))
  intro vs W hG hp b hb
  have q0 : vs 0 = .pointer (some ⟨w.heap.size, 0, none⟩) := hp 0 (by decide)
  have q1 : vs 1 = .agg #[.int .i64 n0, .int .i64 n1] := hp 1 (by decide)
  have q2 : vs 2 = .pointer (some ⟨w.heap.size, 2, none⟩) := hp 2 (by decide)
  have q3 : vs 3 = .agg #[.int .i64 k0, .int .i64 k1] := hp 3 (by decide)
  have q4 : vs 4 = .pointer (some ⟨w.heap.size, 4, none⟩) := hp 4 (by decide)
  have q5 : vs 5 = .agg #[.int .i64 s0, .int .i64 s1] := hp 5 (by decide)
  have q6 : vs 6 = .pointer (some ⟨w.heap.size, 6, none⟩) := hp 6 (by decide)
  have q7 : vs 7 = .agg #[.int .i64 p0, .int .i64 p1, .int .i64 p2, .int .i64 p3] := hp 7 (by decide)
  have q8 : vs 8 = .tuple #[.agg #[.int .i64 0, .int .i64 0, .int .i64 0, .int .i64 0], .bool false] := hp 8 (by decide)
  have q9 : vs 9 = .tuple #[.agg #[.int .i64 0, .int .i64 0, .int .i64 0, .int .i64 0], .bool false] := hp 9 (by decide)
  have q10 : vs 10 = .agg #[.int .i64 0, .int .i64 0, .int .i64 0, .int .i64 0] := hp 10 (by decide)
  have q11 : vs 11 = .bool false := hp 11 (by decide)
  have q12 : ∃ gg, (vs 12) = .pointer (some ⟨gg, 0, none⟩) ∧ W.heap[gg]? = some (box4 0 0 0 0) ∧ w.heap.size + 1 ≤ gg := hp 12 (by decide)
  clear hp
  simp only [fill, Act.put, List.append_eq, List.cons_append, List.nil_append, List.take_succ_cons, List.take_zero, List.setIfInBounds_toArray, List.set_cons_succ, List.set_cons_zero, Nat.reduceAdd, Nat.zero_add, q0, q1, q2, q3, q4, q5, q6, q7, q8, q9, q10, q11] at hb
  subst hb
  simp only [List.append_eq, List.cons_append, List.nil_append, List.drop_succ_cons, List.drop_zero]
  clear q0 q1 q2 q3 q4 q5 q6 q7 q8 q9 q10 q11
  obtain ⟨g, hv, A, hg⟩ := q12
  rw [hv]
  clear hv J
  have z0 : _ = some (Value.int .i64 0) := (blk_cell A 0).trans rfl
  have y0 := blk_frozen A 0
  have z1 : _ = some (Value.int .i64 0) := (blk_cell A 1).trans rfl
  have y1 := blk_frozen A 1
  have z2 : _ = some (Value.int .i64 0) := (blk_cell A 2).trans rfl
  have y2 := blk_frozen A 2
  have z3 : _ = some (Value.int .i64 0) := (blk_cell A 3).trans rfl
  have y3 := blk_frozen A 3
  have hJ := Lib.hid hG
  clear hG
  go_wp2
  replace hJ := hJ.out
  have hG := ((((hJ.set hg 0 (.int .i64 0)).set hg 1 (.int .i64 0)).set hg 2 (.int .i64 0)).set hg 3 (.int .i64 0))
  have hA : (((((W.setCell ⟨g, 0, none⟩ (.int .i64 0)).setCell ⟨g, 1, none⟩ (.int .i64 0)).setCell ⟨g, 2, none⟩ (.int .i64 0)).setCell ⟨g, 3, none⟩ (.int .i64 0))).heap[g]? = some (box4 0 0 0 0) := (blk_put (blk_put (blk_put (blk_put A 0 _ rfl) 1 _ rfl) 2 _ rfl) 3 _ rfl)
  generalize (((W.setCell ⟨g, 0, none⟩ (.int .i64 0)).setCell ⟨g, 1, none⟩ (.int .i64 0)).setCell ⟨g, 2, none⟩ (.int .i64 0)).setCell ⟨g, 3, none⟩ (.int .i64 0) = V at *
  clear hJ A z0 z1 z2 z3 y0 y1 y2 y3
  refine HK2.out _ _ ?_
  clear HK2
  apply wp_seq_k
  intro K3 hK3
  have HK3 := Lib.hid hK3
  clear hK3
  apply wp_seq_k
  intro K4 hK4
  have HK4 := Lib.hid hK4
  clear hK4
  refine wp_listed (R := fun W W' => Below W.heap.size W W') 10 [.val (.pointer (some ⟨w.heap.size, 0, none⟩)), .val (.agg #[.int .i64 n0, .int .i64 n1]), .val (.pointer (some ⟨w.heap.size, 2, none⟩)), .val (.agg #[.int .i64 k0, .int .i64 k1]), .val (.pointer (some ⟨w.heap.size, 4, none⟩)), .val (.agg #[.int .i64 s0, .int .i64 s1]), .val (.pointer (some ⟨w.heap.size, 6, none⟩)), .val (.agg #[.int .i64 p0, .int .i64 p1, .int .i64 p2, .int .i64 p3]), .val (.bool false), .val (.bool (!false))] (fun W => WS n0 n1 k0 k1 s0 s1 p0 p1 p2 p3 w W ∧ W.heap[g]? = some (box4 0 0 0 0)) (by kernel_rfl) ⟨hG, hA⟩ ?_ ?_
  · intro vs W hG b hb
    have e1 : b.eval (.tmp 1) = .pointer (some ⟨w.heap.size, 0, none⟩) := (congrArg (fun x => Act.eval x (.tmp 1)) hb).trans ((fill_out _ 0 _ (by kernel_rfl)).trans rfl)
    have i22 : b.eval (.tmp 22) = vs 0 := (congrArg (fun x => Act.eval x (.tmp 22)) hb).trans ((fill_in _ 0 0 _ _ 22 (by kernel_rfl) rfl rfl (by simp)).trans (congrArg vs (Nat.zero_add _)))
    have i23 : b.eval (.tmp 23) = vs 1 := (congrArg (fun x => Act.eval x (.tmp 23)) hb).trans ((fill_in _ 0 1 _ _ 23 (by kernel_rfl) rfl rfl (by simp)).trans (congrArg vs (Nat.zero_add _)))
    have i24 : b.eval (.tmp 24) = vs 2 := (congrArg (fun x => Act.eval x (.tmp 24)) hb).trans ((fill_in _ 0 2 _ _ 24 (by kernel_rfl) rfl rfl (by simp)).trans (congrArg vs (Nat.zero_add _)))
    have i25 : b.eval (.tmp 25) = vs 3 := (congrArg (fun x => Act.eval x (.tmp 25)) hb).trans ((fill_in _ 0 3 _ _ 25 (by kernel_rfl) rfl rfl (by simp)).trans (congrArg vs (Nat.zero_add _)))
    have i26 : b.eval (.tmp 26) = vs 4 := (congrArg (fun x => Act.eval x (.tmp 26)) hb).trans ((fill_in _ 0 4 _ _ 26 (by kernel_rfl) rfl rfl (by simp)).trans (congrArg vs (Nat.zero_add _)))
    have i27 : b.eval (.tmp 27) = vs 5 := (congrArg (fun x => Act.eval x (.tmp 27)) hb).trans ((fill_in _ 0 5 _ _ 27 (by kernel_rfl) rfl rfl (by simp)).trans (congrArg vs (Nat.zero_add _)))
    have i28 : b.eval (.tmp 28) = vs 6 := (congrArg (fun x => Act.eval x (.tmp 28)) hb).trans ((fill_in _ 0 6 _ _ 28 (by kernel_rfl) rfl rfl (by simp)).trans (congrArg vs (Nat.zero_add _)))
    have i29 : b.eval (.tmp 29) = vs 7 := (congrArg (fun x => Act.eval x (.tmp 29)) hb).trans ((fill_in _ 0 7 _ _ 29 (by kernel_rfl) rfl rfl (by simp)).trans (congrArg vs (Nat.zero_add _)))
    have i30 : b.eval (.tmp 30) = vs 8 := (congrArg (fun x => Act.eval x (.tmp 30)) hb).trans ((fill_in _ 0 8 _ _ 30 (by kernel_rfl) rfl rfl (by simp)).trans (congrArg vs (Nat.zero_add _)))
    clear hb
    refine And.intro ?_ (And.intro ?_ (And.intro ?_ (And.intro ?_ (And.intro ?_ (And.intro ?_ (And.intro ?_ (And.intro ?_ (And.intro ?_ (And.intro ?_ (trivial))))))))))
    · intro hp K hK
      refine g_no rfl ?_
      exact st_field rfl (e1) (by kernel_rfl) (hK _ _ rfl hG (Below.refl _ _))
    · intro hp K hK
      refine g_no rfl ?_
      have e22 : b.eval (.tmp 22) = .pointer (some ⟨w.heap.size, 0, none⟩) := i22.trans (hp 0 (by kernel_rfl))
      exact st_load rfl (e22) (ldw0 hG.1.b0) (hK _ _ rfl hG (Below.refl _ _))
    · intro hp K hK
      refine g_no rfl ?_
      exact st_field rfl (e1) (by kernel_rfl) (hK _ _ rfl hG (Below.refl _ _))
    · intro hp K hK
      refine g_no rfl ?_
      have e24 : b.eval (.tmp 24) = .pointer (some ⟨w.heap.size, 2, none⟩) := i24.trans (hp 2 (by kernel_rfl))
      exact st_load rfl (e24) (ldw2 hG.1.b0) (hK _ _ rfl hG (Below.refl _ _))
    · intro hp K hK
      refine g_no rfl ?_
      exact st_field rfl (e1) (by kernel_rfl) (hK _ _ rfl hG (Below.refl _ _))
    · intro hp K hK
      refine g_no rfl ?_
      have e26 : b.eval (.tmp 26) = .pointer (some ⟨w.heap.size, 4, none⟩) := i26.trans (hp 4 (by kernel_rfl))
      exact st_load rfl (e26) (ldw4 hG.1.b0) (hK _ _ rfl hG (Below.refl _ _))
    · intro hp K hK
      refine g_no rfl ?_
      exact st_field rfl (e1) (by kernel_rfl) (hK _ _ rfl hG (Below.refl _ _))
    · intro hp K hK
      refine g_no rfl ?_
      have e28 : b.eval (.tmp 28) = .pointer (some ⟨w.heap.size, 6, none⟩) := i28.trans (hp 6 (by kernel_rfl))
      exact st_load rfl (e28) (ldw6 hG.1.b0) (hK _ _ rfl hG (Below.refl _ _))
    · intro hp K hK
      refine g_no rfl ?_
      have e23 : b.eval (.tmp 23) = .agg #[.int .i64 n0, .int .i64 n1] := i23.trans (hp 1 (by kernel_rfl))
      have e25 : b.eval (.tmp 25) = .agg #[.int .i64 k0, .int .i64 k1] := i25.trans (hp 3 (by kernel_rfl))
      have e27 : b.eval (.tmp 27) = .agg #[.int .i64 s0, .int .i64 s1] := i27.trans (hp 5 (by kernel_rfl))
      have e29 : b.eval (.tmp 29) = .agg #[.int .i64 p0, .int .i64 p1, .int .i64 p2, .int .i64 p3] := i29.trans (hp 7 (by kernel_rfl))
      refine st_call rfl (by first | (simp only [List.map_toArray, List.map_cons, List.map_nil, eval_const, e23, e25, e27, e29]; done) | (simp only [List.map_toArray, List.map_cons, List.map_nil, eval_const, e23, e25, e27, e29]; rfl)) (by kernel_rfl) ?_
      refine ((refGood n0 n1 k0 k1 s0 s1 p0 p1 p2 p3 _).mono (fun e w' h => ⟨h.1.trans (by rw [H.out]), h.2⟩ : ∀ e w', _ → (e = .returned (.bool false) ∧ Below _ _ w'))).mono ?_
      rintro e w' ⟨rfl, hb'⟩
      exact ⟨_, rfl, hK _ _ rfl ⟨hG.1.step hb', blk_below hG.2 hb'⟩ hb'⟩
    · intro hp K hK
      refine g_no rfl ?_
      have e30 : b.eval (.tmp 30) = .bool false := i30.trans (hp 8 (by kernel_rfl))
      exact st_un rfl (e30) u_not (hK _ _ rfl hG (Below.refl _ _))
  intro vs W hG hp b hb
  have q9 : vs 9 = .bool (!false) := hp 9 (by decide)
  clear hp
  simp only [fill, Act.put, List.append_eq, List.cons_append, List.nil_append, List.take_succ_cons, List.take_zero, List.setIfInBounds_toArray, List.set_cons_succ, List.set_cons_zero, Nat.reduceAdd, Nat.zero_add, q9] at hb
  subst hb
  refine wpList_nil ?_
  clear q9
  clear hA
  refine HK4.out _ _ ?_
  clear HK4
  apply wp_cond_true rfl
  apply wp_seq_k
  intro K5 hK5
  have HK5 := Lib.hid hK5
  clear hK5
  refine wp_listed (R := fun W W' => Below W.heap.size W W') 11 [.val (.agg #[.int .i64 0, .int .i64 0, .int .i64 0, .int .i64 0]), .val (.agg #[.int .i64 0, .int .i64 0, .int .i64 0, .int .i64 0]), .val (.bool true), .val (.bool true), .val ((bif ((true) == true) then (.bool false) else undef)), .val ((bif ((true) == true) then (.bool (!false)) else undef)), .val (.bool (true && (!false))), .val (.bool (true && (!false))), .val ((bif ((true && (!false)) == true) then (.bool true) else undef)), .val (.bool ((true && (!false)) && true)), .val (.bool ((true && (!false)) && true))] (fun W => WS n0 n1 k0 k1 s0 s1 p0 p1 p2 p3 w W ∧ W.heap[g]? = some (box4 0 0 0 0)) (by kernel_rfl) hG ?_ ?_
  · intro vs W hG b hb
    have e3 : b.eval (.tmp 3) = .pointer (some ⟨g, 0, none⟩) := (congrArg (fun x => Act.eval x (.tmp 3)) hb).trans ((fill_out _ 0 _ (by kernel_rfl)).trans rfl)
    have e4 : b.eval (.tmp 4) = .bool false := (congrArg (fun x => Act.eval x (.tmp 4)) hb).trans ((fill_out _ 0 _ (by kernel_rfl)).trans rfl)
    have i32 : b.eval (.tmp 32) = vs 0 := (congrArg (fun x => Act.eval x (.tmp 32)) hb).trans ((fill_in _ 0 0 _ _ 32 (by kernel_rfl) rfl rfl (by simp)).trans (congrArg vs (Nat.zero_add _)))
    have i33 : b.eval (.tmp 33) = vs 1 := (congrArg (fun x => Act.eval x (.tmp 33)) hb).trans ((fill_in _ 0 1 _ _ 33 (by kernel_rfl) rfl rfl (by simp)).trans (congrArg vs (Nat.zero_add _)))
    have i34 : b.eval (.tmp 34) = vs 2 := (congrArg (fun x => Act.eval x (.tmp 34)) hb).trans ((fill_in _ 0 2 _ _ 34 (by kernel_rfl) rfl rfl (by simp)).trans (congrArg vs (Nat.zero_add _)))
    have i35 : b.eval (.tmp 35) = vs 3 := (congrArg (fun x => Act.eval x (.tmp 35)) hb).trans ((fill_in _ 0 3 _ _ 35 (by kernel_rfl) rfl rfl (by simp)).trans (congrArg vs (Nat.zero_add _)))
    have i36 : b.eval (.tmp 36) = vs 4 := (congrArg (fun x => Act.eval x (.tmp 36)) hb).trans ((fill_in _ 0 4 _ _ 36 (by kernel_rfl) rfl rfl (by simp)).trans (congrArg vs (Nat.zero_add _)))
    have i37 : b.eval (.tmp 37) = vs 5 := (congrArg (fun x => Act.eval x (.tmp 37)) hb).trans ((fill_in _ 0 5 _ _ 37 (by kernel_rfl) rfl rfl (by simp)).trans (congrArg vs (Nat.zero_add _)))
    have i38 : b.eval (.tmp 38) = vs 6 := (congrArg (fun x => Act.eval x (.tmp 38)) hb).trans ((fill_in _ 0 6 _ _ 38 (by kernel_rfl) rfl rfl (by simp)).trans (congrArg vs (Nat.zero_add _)))
    have i39 : b.eval (.tmp 39) = vs 7 := (congrArg (fun x => Act.eval x (.tmp 39)) hb).trans ((fill_in _ 0 7 _ _ 39 (by kernel_rfl) rfl rfl (by simp)).trans (congrArg vs (Nat.zero_add _)))
    have i40 : b.eval (.tmp 40) = vs 8 := (congrArg (fun x => Act.eval x (.tmp 40)) hb).trans ((fill_in _ 0 8 _ _ 40 (by kernel_rfl) rfl rfl (by simp)).trans (congrArg vs (Nat.zero_add _)))
    have i41 : b.eval (.tmp 41) = vs 9 := (congrArg (fun x => Act.eval x (.tmp 41)) hb).trans ((fill_in _ 0 9 _ _ 41 (by kernel_rfl) rfl rfl (by simp)).trans (congrArg vs (Nat.zero_add _)))
    clear hb
    refine And.intro ?_ (And.intro ?_ (And.intro ?_ (And.intro ?_ (And.intro ?_ (And.intro ?_ (And.intro ?_ (And.intro ?_ (And.intro ?_ (And.intro ?_ (And.intro ?_ (trivial)))))))))))
    · intro hp K hK
      refine g_no rfl ?_
      exact st_load rfl (e3) (ld4 hG.2) (hK _ _ rfl hG (Below.refl _ _))
    · intro hp K hK
      refine g_no rfl ?_
      exact st_build rfl (by first | (simp only [List.map_toArray, List.map_cons, List.map_nil, eval_const]; done) | (simp only [List.map_toArray, List.map_cons, List.map_nil, eval_const]; rfl)) (by kernel_rfl) (hK _ _ rfl hG (Below.refl _ _))
    · intro hp K hK
      refine g_no rfl ?_
      have e32 : b.eval (.tmp 32) = .agg #[.int .i64 0, .int .i64 0, .int .i64 0, .int .i64 0] := i32.trans (hp 0 (by kernel_rfl))
      have e33 : b.eval (.tmp 33) = .agg #[.int .i64 0, .int .i64 0, .int .i64 0, .int .i64 0] := i33.trans (hp 1 (by kernel_rfl))
      exact st_bin rfl (e32) (e33) (beq4 0 0 0 0 0 0 0 0 _) (hK _ _ rfl hG (Below.refl _ _))
    · intro hp K hK
      refine g_no rfl ?_
      have e34 : b.eval (.tmp 34) = .bool true := i34.trans (hp 2 (by kernel_rfl))
      exact st_move (.inl rfl) (e34) (hK _ _ rfl hG (Below.refl _ _))
    · intro hp K hK
      refine g_is (j := 3) (want := true) (c := true) rfl (yielded_of (d := 35) rfl rfl (i35.trans (hp 3 (by kernel_rfl)))) (fun hb => ?_) (fun hb => hK _ _ (cond_no hb) hG (Below.refl _ _))
      exact st_move (.inl rfl) (e4) (hK _ _ (cond_yes hb).symm hG (Below.refl _ _))
    · intro hp K hK
      refine g_is (j := 3) (want := true) (c := true) rfl (yielded_of (d := 35) rfl rfl (i35.trans (hp 3 (by kernel_rfl)))) (fun hb => ?_) (fun hb => hK _ _ (cond_no hb) hG (Below.refl _ _))
      have e36 : b.eval (.tmp 36) = (bif ((true) == true) then (.bool false) else undef) := i36.trans (hp 4 (by kernel_rfl))
      replace e36 := e36.trans (cond_yes hb)
      exact st_un rfl (e36) u_not (hK _ _ (cond_yes hb).symm hG (Below.refl _ _))
    · intro hp K hK
      refine g_no rfl ?_
      have e35 : b.eval (.tmp 35) = .bool true := i35.trans (hp 3 (by kernel_rfl))
      have e37 : b.eval (.tmp 37) = (bif ((true) == true) then (.bool (!false)) else undef) := i37.trans (hp 5 (by kernel_rfl))
      exact st_pick rfl (e35) (by first | (rw [e37]; exact pick_and) | (rw [show b.eval (Operand.tmp 37) = _ from eval_const _]; exact pick_and)) (hK _ _ rfl hG (Below.refl _ _))
    · intro hp K hK
      refine g_no rfl ?_
      have e38 : b.eval (.tmp 38) = .bool (true && (!false)) := i38.trans (hp 6 (by kernel_rfl))
      exact st_move (.inl rfl) (e38) (hK _ _ rfl hG (Below.refl _ _))
    · intro hp K hK
      refine g_is (j := 7) (want := true) (c := true && (!false)) rfl (yielded_of (d := 39) rfl rfl (i39.trans (hp 7 (by kernel_rfl)))) (fun hb => ?_) (fun hb => hK _ _ (cond_no hb) hG (Below.refl _ _))
      refine st_call rfl (by first | (simp only [List.map_toArray, List.map_cons, List.map_nil, eval_const]; done) | (simp only [List.map_toArray, List.map_cons, List.map_nil, eval_const]; rfl)) (by kernel_rfl) ?_
      refine (lives_is _).mono ?_
      rintro e w' ⟨rfl, hb'⟩
      exact ⟨_, rfl, hK _ _ (cond_yes hb).symm ⟨hG.1.step hb', blk_below hG.2 hb'⟩ hb'⟩
    · intro hp K hK
      refine g_no rfl ?_
      have e39 : b.eval (.tmp 39) = .bool (true && (!false)) := i39.trans (hp 7 (by kernel_rfl))
      have e40 : b.eval (.tmp 40) = (bif ((true && (!false)) == true) then (.bool true) else undef) := i40.trans (hp 8 (by kernel_rfl))
      exact st_pick rfl (e39) (by first | (rw [e40]; exact pick_and) | (rw [show b.eval (Operand.tmp 40) = _ from eval_const _]; exact pick_and)) (hK _ _ rfl hG (Below.refl _ _))
    · intro hp K hK
      refine g_no rfl ?_
      have e41 : b.eval (.tmp 41) = .bool ((true && (!false)) && true) := i41.trans (hp 9 (by kernel_rfl))
      exact st_move (.inr rfl) (e41) (hK _ _ rfl hG (Below.refl _ _))
  intro vs W hG hp b hb
  have q10 : vs 10 = .bool ((true && (!false)) && true) := hp 10 (by decide)
  clear hp
  simp only [fill, Act.put, List.append_eq, List.cons_append, List.nil_append, List.take_succ_cons, List.take_zero, List.setIfInBounds_toArray, List.set_cons_succ, List.set_cons_zero, Nat.reduceAdd, Nat.zero_add, q10] at hb
  subst hb
  refine wpList_nil ?_
  clear q10
  refine HK5.out _ _ ?_
  clear HK5
  have hG := Lib.hid hG
  go_wp2
  go_ret
  exact ⟨rfl, hG.out.1.bel⟩
theorem inside_law (n0 n1 k0 k1 s0 s1 p0 p1 p2 p3 : Int) (w : World) : Calls Try.prog 8 #[.agg #[.int .i64 n0, .int .i64 n1, .int .i64 k0, .int .i64 k1, .int .i64 s0, .int .i64 s1, .int .i64 p0, .int .i64 p1, .int .i64 p2, .int .i64 p3]] w (fun e w' => e = .returned (.bool true) ∧ Below w.heap.size w w') := by
  cases h : goodV n0 n1 k0 k1 s0 s1 p0 p1 p2 p3
  · exact inside_bad n0 n1 k0 k1 s0 s1 p0 p1 p2 p3 w h
  · exact inside_good n0 n1 k0 k1 s0 s1 p0 p1 p2 p3 w h
end Go.Proofs.Ytfcimgdogkpbcaa.W
