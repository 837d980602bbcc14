/- Window: of, by whether the window is good; Out. -/
import Derived.Test.YtfcimgdogkpbcaaW5
namespace Go.Proofs.Ytfcimgdogkpbcaa.W
open Go.RowKit T1 F Dr
set_option linter.unusedVariables false
set_option linter.unusedSimpArgs false
set_option maxRecDepth 100000
attribute [local go_sem] run_store_complex

theorem goodV_iff {n0 n1 k0 k1 s0 s1 p0 p1 p2 p3 : Int} : goodV n0 n1 k0 k1 s0 s1 p0 p1 p2 p3 = true ↔ (1 ≤ n0 ∧ n0 ≤ 64) ∧ (1 ≤ k0 ∧ k0 ≤ 8) ∧ (1 ≤ s0 ∧ s0 ≤ 8) ∧ (0 ≤ p0 ∧ p0 ≤ (k0 - 1)) ∧ (0 ≤ p2 ∧ p2 ≤ (k0 - 1)) ∧ (1 ≤ n1 ∧ n1 ≤ 64) ∧ (1 ≤ k1 ∧ k1 ≤ 8) ∧ (1 ≤ s1 ∧ s1 ≤ 8) ∧ (0 ≤ p1 ∧ p1 ≤ (k1 - 1)) ∧ (0 ≤ p3 ∧ p3 ≤ (k1 - 1)) ∧ k0 ≤ (n0 + p0 + p2) ∧ k1 ≤ (n1 + p1 + p3) := by
  simp [goodV, badB, shortB]
  omega
theorem of_good (n0 n1 k0 k1 s0 s1 p0 p1 p2 p3 : Int) (w : World) (h : goodV n0 n1 k0 k1 s0 s1 p0 p1 p2 p3 = true) : Calls Try.prog 29 #[.agg #[.int .i64 n0, .int .i64 n1], .agg #[.int .i64 k0, .int .i64 k1], .agg #[.int .i64 s0, .int .i64 s1], .agg #[.int .i64 p0, .int .i64 p1, .int .i64 p2, .int .i64 p3]] w (fun e w' => e = .returned (.tuple #[frm n0 n1 k0 k1 s0 s1 p0 p1 (n0 + p0 + p2) (n1 + p1 + p3), .bool true]) ∧ Below w.heap.size w w') := by
  obtain ⟨ht00, ht01, ht02, ht03, ht04, ht10, ht11, ht12, ht13, ht14, ha, hb⟩ := goodV_iff.1 h
  exact of_yes n0 n1 k0 k1 s0 s1 p0 p1 p2 p3 w (decide_eq_true ht00) (decide_eq_true ht01) (decide_eq_true ht02) (decide_eq_true ht03) (decide_eq_true ht04) (decide_eq_true ht10) (decide_eq_true ht11) (decide_eq_true ht12) (decide_eq_true ht13) (decide_eq_true ht14) (decide_eq_true (by omega)) (decide_eq_true (by omega))
theorem of_bad (n0 n1 k0 k1 s0 s1 p0 p1 p2 p3 : Int) (w : World) (h : goodV n0 n1 k0 k1 s0 s1 p0 p1 p2 p3 = false) : Calls Try.prog 29 #[.agg #[.int .i64 n0, .int .i64 n1], .agg #[.int .i64 k0, .int .i64 k1], .agg #[.int .i64 s0, .int .i64 s1], .agg #[.int .i64 p0, .int .i64 p1, .int .i64 p2, .int .i64 p3]] w (NoFrame w) := by
  by_cases ht00 : 1 ≤ n0 ∧ n0 ≤ 64
  case neg => exact of_no00 n0 n1 k0 k1 s0 s1 p0 p1 p2 p3 w  (decide_eq_false ht00)
  by_cases ht01 : 1 ≤ k0 ∧ k0 ≤ 8
  case neg => exact of_no01 n0 n1 k0 k1 s0 s1 p0 p1 p2 p3 w (decide_eq_true ht00) (decide_eq_false ht01)
  by_cases ht02 : 1 ≤ s0 ∧ s0 ≤ 8
  case neg => exact of_no02 n0 n1 k0 k1 s0 s1 p0 p1 p2 p3 w (decide_eq_true ht00) (decide_eq_true ht01) (decide_eq_false ht02)
  by_cases ht03 : 0 ≤ p0 ∧ p0 ≤ (k0 - 1)
  case neg => exact of_no03 n0 n1 k0 k1 s0 s1 p0 p1 p2 p3 w (decide_eq_true ht00) (decide_eq_true ht01) (decide_eq_true ht02) (decide_eq_false ht03)
  by_cases ht04 : 0 ≤ p2 ∧ p2 ≤ (k0 - 1)
  case neg => exact of_no04 n0 n1 k0 k1 s0 s1 p0 p1 p2 p3 w (decide_eq_true ht00) (decide_eq_true ht01) (decide_eq_true ht02) (decide_eq_true ht03) (decide_eq_false ht04)
  by_cases ht10 : 1 ≤ n1 ∧ n1 ≤ 64
  case neg => exact of_no10 n0 n1 k0 k1 s0 s1 p0 p1 p2 p3 w (decide_eq_true ht00) (decide_eq_true ht01) (decide_eq_true ht02) (decide_eq_true ht03) (decide_eq_true ht04) (decide_eq_false ht10)
  by_cases ht11 : 1 ≤ k1 ∧ k1 ≤ 8
  case neg => exact of_no11 n0 n1 k0 k1 s0 s1 p0 p1 p2 p3 w (decide_eq_true ht00) (decide_eq_true ht01) (decide_eq_true ht02) (decide_eq_true ht03) (decide_eq_true ht04) (decide_eq_true ht10) (decide_eq_false ht11)
  by_cases ht12 : 1 ≤ s1 ∧ s1 ≤ 8
  case neg => exact of_no12 n0 n1 k0 k1 s0 s1 p0 p1 p2 p3 w (decide_eq_true ht00) (decide_eq_true ht01) (decide_eq_true ht02) (decide_eq_true ht03) (decide_eq_true ht04) (decide_eq_true ht10) (decide_eq_true ht11) (decide_eq_false ht12)
  by_cases ht13 : 0 ≤ p1 ∧ p1 ≤ (k1 - 1)
  case neg => exact of_no13 n0 n1 k0 k1 s0 s1 p0 p1 p2 p3 w (decide_eq_true ht00) (decide_eq_true ht01) (decide_eq_true ht02) (decide_eq_true ht03) (decide_eq_true ht04) (decide_eq_true ht10) (decide_eq_true ht11) (decide_eq_true ht12) (decide_eq_false ht13)
  by_cases ht14 : 0 ≤ p3 ∧ p3 ≤ (k1 - 1)
  case neg => exact of_no14 n0 n1 k0 k1 s0 s1 p0 p1 p2 p3 w (decide_eq_true ht00) (decide_eq_true ht01) (decide_eq_true ht02) (decide_eq_true ht03) (decide_eq_true ht04) (decide_eq_true ht10) (decide_eq_true ht11) (decide_eq_true ht12) (decide_eq_true ht13) (decide_eq_false ht14)
  by_cases ha : 0 ≤ (n0 + p0 + p2) - k0
  case neg => exact of_no20 n0 n1 k0 k1 s0 s1 p0 p1 p2 p3 w (decide_eq_true ht00) (decide_eq_true ht01) (decide_eq_true ht02) (decide_eq_true ht03) (decide_eq_true ht04) (decide_eq_true ht10) (decide_eq_true ht11) (decide_eq_true ht12) (decide_eq_true ht13) (decide_eq_true ht14) (decide_eq_false ha)
  by_cases hb : 0 ≤ (n1 + p1 + p3) - k1
  case neg => exact of_no21 n0 n1 k0 k1 s0 s1 p0 p1 p2 p3 w (decide_eq_true ht00) (decide_eq_true ht01) (decide_eq_true ht02) (decide_eq_true ht03) (decide_eq_true ht04) (decide_eq_true ht10) (decide_eq_true ht11) (decide_eq_true ht12) (decide_eq_true ht13) (decide_eq_true ht14) (decide_eq_true ha) (decide_eq_false hb)
  exact absurd (goodV_iff.2 ⟨ht00, ht01, ht02, ht03, ht04, ht10, ht11, ht12, ht13, ht14, by omega, by omega⟩) (by rw [h]; decide)
structure OU (n0 n1 k0 k1 s0 s1 p0 p1 p2 p3 : Int) (w W : World) : Prop where
  b0 : W.heap[w.heap.size]? = some (box2 n0 n1)
  b1 : W.heap[w.heap.size + 1]? = some (box2 k0 k1)
  b2 : W.heap[w.heap.size + 1 + 1]? = some (box2 s0 s1)
  b3 : W.heap[w.heap.size + 1 + 1 + 1]? = some (box4 p0 p1 p2 p3)
  b4 : W.heap[w.heap.size + 1 + 1 + 1 + 1]? = some (box2 0 0)
  bel : Below w.heap.size w W
theorem OU.step {n0 n1 k0 k1 s0 s1 p0 p1 p2 p3 : Int} {w W : World} {W' : World} (J : OU n0 n1 k0 k1 s0 s1 p0 p1 p2 p3 w W) (hb : Below W.heap.size W W') : OU n0 n1 k0 k1 s0 s1 p0 p1 p2 p3 w W' := ⟨blk_below J.b0 hb, blk_below J.b1 hb, blk_below J.b2 hb, blk_below J.b3 hb, blk_below J.b4 hb, below_step J.bel hb⟩
theorem OU.drew {n0 n1 k0 k1 s0 s1 p0 p1 p2 p3 : Int} {w W : World} (J : OU n0 n1 k0 k1 s0 s1 p0 p1 p2 p3 w W) : OU n0 n1 k0 k1 s0 s1 p0 p1 p2 p3 w W.drew := ⟨J.b0, J.b1, J.b2, J.b3, J.b4, J.bel.drew⟩
theorem OU.alloc {n0 n1 k0 k1 s0 s1 p0 p1 p2 p3 : Int} {w W : World} (J : OU n0 n1 k0 k1 s0 s1 p0 p1 p2 p3 w W) (o : Obj) : OU n0 n1 k0 k1 s0 s1 p0 p1 p2 p3 w (W.alloc o) := J.step ((Below.refl _ _).alloc (Nat.le_refl _) o)
theorem OU.size {n0 n1 k0 k1 s0 s1 p0 p1 p2 p3 : Int} {w W : World} (J : OU n0 n1 k0 k1 s0 s1 p0 p1 p2 p3 w W) : w.heap.size + 5 ≤ W.heap.size := by
  have := (Array.getElem?_eq_some_iff.1 J.b4).1
  omega
theorem OU.start (n0 n1 k0 k1 s0 s1 p0 p1 p2 p3 : Int) (w : World) : OU n0 n1 k0 k1 s0 s1 p0 p1 p2 p3 w (((((w.alloc (box2 n0 n1)).alloc (box2 k0 k1)).alloc (box2 s0 s1)).alloc (box4 p0 p1 p2 p3)).alloc (box2 0 0)) := by
  have e1 : ((w.alloc (box2 n0 n1))).heap.size = w.heap.size + 1 := by simp
  have e2 : (((w.alloc (box2 n0 n1)).alloc (box2 k0 k1))).heap.size = w.heap.size + 1 + 1 := by simp
  have e3 : ((((w.alloc (box2 n0 n1)).alloc (box2 k0 k1)).alloc (box2 s0 s1))).heap.size = w.heap.size + 1 + 1 + 1 := by simp
  have e4 : (((((w.alloc (box2 n0 n1)).alloc (box2 k0 k1)).alloc (box2 s0 s1)).alloc (box4 p0 p1 p2 p3))).heap.size = w.heap.size + 1 + 1 + 1 + 1 := by simp
  have k0' := blk_new w (box2 n0 n1)
  have k1' := blk_new (w.alloc (box2 n0 n1)) (box2 k0 k1)
  rw [e1] at k1'
  have k2' := blk_new ((w.alloc (box2 n0 n1)).alloc (box2 k0 k1)) (box2 s0 s1)
  rw [e2] at k2'
  have k3' := blk_new (((w.alloc (box2 n0 n1)).alloc (box2 k0 k1)).alloc (box2 s0 s1)) (box4 p0 p1 p2 p3)
  rw [e3] at k3'
  have k4' := blk_new ((((w.alloc (box2 n0 n1)).alloc (box2 k0 k1)).alloc (box2 s0 s1)).alloc (box4 p0 p1 p2 p3)) (box2 0 0)
  rw [e4] at k4'
  exact ⟨blk_alloc (blk_alloc (blk_alloc (blk_alloc (k0') _) _) _) _, blk_alloc (blk_alloc (blk_alloc (k1') _) _) _, blk_alloc (blk_alloc (k2') _) _, blk_alloc (k3') _, k4', below_alloc (below_alloc (below_alloc (below_alloc (below_alloc (Below.refl _ _) _) _) _) _) _⟩
theorem OU.set {n0 n1 k0 k1 s0 s1 p0 p1 p2 p3 : Int} {w W : World} {g : Nat} (J : OU n0 n1 k0 k1 s0 s1 p0 p1 p2 p3 w W) (hg : w.heap.size + 5 ≤ g) (i : Nat) (v : Value) : OU n0 n1 k0 k1 s0 s1 p0 p1 p2 p3 w (W.setCell ⟨g, i, none⟩ v) :=
  ⟨(Below.heap_setCell _ _ _ _ (by show _ ≠ g; omega)).trans J.b0, (Below.heap_setCell _ _ _ _ (by show _ ≠ g; omega)).trans J.b1, (Below.heap_setCell _ _ _ _ (by show _ ≠ g; omega)).trans J.b2, (Below.heap_setCell _ _ _ _ (by show _ ≠ g; omega)).trans J.b3, (Below.heap_setCell _ _ _ _ (by show _ ≠ g; omega)).trans J.b4, below_set J.bel (by omega)⟩
theorem z5_put {W : World} {g : Nat} (A : W.heap[g]? = some z5) (x0 y0 x1 y1 x2 y2 x3 y3 x4 y4 : Nat) : (((((W.setCell ⟨g, 0, none⟩ (.complex .f64 x0 y0)).setCell ⟨g, 1, none⟩ (.complex .f64 x1 y1)).setCell ⟨g, 2, none⟩ (.complex .f64 x2 y2)).setCell ⟨g, 3, none⟩ (.complex .f64 x3 y3)).setCell ⟨g, 4, none⟩ (.complex .f64 x4 y4)).heap[g]? = some (.cells #[.complex .f64 x0 y0, .complex .f64 x1 y1, .complex .f64 x2 y2, .complex .f64 x3 y3, .complex .f64 x4 y4] 53 (0, 0)) :=
  blk_put (blk_put (blk_put (blk_put (blk_put A 0 _ rfl) 1 _ rfl) 2 _ rfl) 3 _ rfl) 4 _ rfl
theorem ld5 {W : World} {g : Nat} {a b c d e : Value} (h : W.heap[g]? = some (.cells #[a, b, c, d, e] 53 (0, 0))) : (loadVar 53 ⟨g, 0, none⟩).run Try.prog W = .ok (.agg #[a, b, c, d, e]) W := run_loadVar_row W g 53 53 _ (0, 0) _ h Try.underlying53 rfl (by kernel_rfl)
set_option maxHeartbeats 4000000 in
theorem Out_good (n0 n1 k0 k1 s0 s1 p0 p1 p2 p3 : Int) (w : World) (h : goodV n0 n1 k0 k1 s0 s1 p0 p1 p2 p3 = true) : Calls Try.prog 20 #[.agg #[.int .i64 n0, .int .i64 n1], .agg #[.int .i64 k0, .int .i64 k1], .agg #[.int .i64 s0, .int .i64 s1], .agg #[.int .i64 p0, .int .i64 p1, .int .i64 p2, .int .i64 p3]] w (fun e w' => e = .returned (.tuple #[.agg #[.int .i64 (((n0 + p0 + p2) - k0) / s0 + 1), .int .i64 (((n1 + p1 + p3) - k1) / s1 + 1)], .bool true]) ∧ Below w.heap.size w w') := by
  have H := Lib.hid h
  clear h
  have J := Lib.hid (OU.start n0 n1 k0 k1 s0 s1 p0 p1 p2 p3 w)
  go_enter Try.func20, Try.ntmps20
  apply wp_seq_k
  intro K1 hK1
  have HK1 := Lib.hid hK1
  clear hK1
  go_wp2
  refine HK1.out _ _ ?_
  clear HK1
  generalize ((((w.alloc (box2 n0 n1)).alloc (box2 k0 k1)).alloc (box2 s0 s1)).alloc (box4 p0 p1 p2 p3)).alloc (box2 0 0) = u0 at *
  replace J := J.out
  apply wp_seq_k
  intro K2 hK2
  have HK2 := Lib.hid hK2
  clear hK2
  refine wp_listed (R := fun W W' => Below W.heap.size W W') 9 [.val (.agg #[.int .i64 n0, .int .i64 n1]), .val (.agg #[.int .i64 k0, .int .i64 k1]), .val (.agg #[.int .i64 s0, .int .i64 s1]), .val (.agg #[.int .i64 p0, .int .i64 p1, .int .i64 p2, .int .i64 p3]), .val (.tuple #[.agg #[pl n0 n1, pl k0 k1, pl s0 s1, pl p0 p1, pl (n0 + p0 + p2) (n1 + p1 + p3)], .bool true]), .val (.tuple #[.agg #[pl n0 n1, pl k0 k1, pl s0 s1, pl p0 p1, pl (n0 + p0 + p2) (n1 + p1 + p3)], .bool true]), .val (.agg #[pl n0 n1, pl k0 k1, pl s0 s1, pl p0 p1, pl (n0 + p0 + p2) (n1 + p1 + p3)]), .val (.bool true), newSpec z5 (w.heap.size + 5)] (fun W => OU n0 n1 k0 k1 s0 s1 p0 p1 p2 p3 w W) (by kernel_rfl) J ?_ ?_
  · intro vs W hG b hb
    have e4 : b.eval (.tmp 4) = .pointer (some ⟨w.heap.size, 0, none⟩) := (congrArg (fun x => Act.eval x (.tmp 4)) hb).trans ((fill_out _ 0 _ (by kernel_rfl)).trans rfl)
    have e5 : b.eval (.tmp 5) = .pointer (some ⟨w.heap.size + 1, 0, none⟩) := (congrArg (fun x => Act.eval x (.tmp 5)) hb).trans ((fill_out _ 0 _ (by kernel_rfl)).trans rfl)
    have e6 : b.eval (.tmp 6) = .pointer (some ⟨w.heap.size + 1 + 1, 0, none⟩) := (congrArg (fun x => Act.eval x (.tmp 6)) hb).trans ((fill_out _ 0 _ (by kernel_rfl)).trans rfl)
    have e7 : b.eval (.tmp 7) = .pointer (some ⟨w.heap.size + 1 + 1 + 1, 0, none⟩) := (congrArg (fun x => Act.eval x (.tmp 7)) hb).trans ((fill_out _ 0 _ (by kernel_rfl)).trans rfl)
    have i12 : b.eval (.tmp 12) = vs 5 := (congrArg (fun x => Act.eval x (.tmp 12)) hb).trans ((fill_in _ 0 5 _ _ 12 (by kernel_rfl) rfl rfl (by simp)).trans (congrArg vs (Nat.zero_add _)))
    have i13 : b.eval (.tmp 13) = vs 0 := (congrArg (fun x => Act.eval x (.tmp 13)) hb).trans ((fill_in _ 0 0 _ _ 13 (by kernel_rfl) rfl rfl (by simp)).trans (congrArg vs (Nat.zero_add _)))
    have i14 : b.eval (.tmp 14) = vs 1 := (congrArg (fun x => Act.eval x (.tmp 14)) hb).trans ((fill_in _ 0 1 _ _ 14 (by kernel_rfl) rfl rfl (by simp)).trans (congrArg vs (Nat.zero_add _)))
    have i15 : b.eval (.tmp 15) = vs 2 := (congrArg (fun x => Act.eval x (.tmp 15)) hb).trans ((fill_in _ 0 2 _ _ 15 (by kernel_rfl) rfl rfl (by simp)).trans (congrArg vs (Nat.zero_add _)))
    have i16 : b.eval (.tmp 16) = vs 3 := (congrArg (fun x => Act.eval x (.tmp 16)) hb).trans ((fill_in _ 0 3 _ _ 16 (by kernel_rfl) rfl rfl (by simp)).trans (congrArg vs (Nat.zero_add _)))
    have i17 : b.eval (.tmp 17) = vs 4 := (congrArg (fun x => Act.eval x (.tmp 17)) hb).trans ((fill_in _ 0 4 _ _ 17 (by kernel_rfl) rfl rfl (by simp)).trans (congrArg vs (Nat.zero_add _)))
    clear hb
    refine And.intro ?_ (And.intro ?_ (And.intro ?_ (And.intro ?_ (And.intro ?_ (And.intro ?_ (And.intro ?_ (And.intro ?_ (And.intro ?_ (trivial)))))))))
    · intro hp K hK
      refine g_no rfl ?_
      exact st_load rfl (e4) (ld2 hG.b0) (hK _ _ rfl hG (Below.refl _ _))
    · intro hp K hK
      refine g_no rfl ?_
      exact st_load rfl (e5) (ld2 hG.b1) (hK _ _ rfl hG (Below.refl _ _))
    · intro hp K hK
      refine g_no rfl ?_
      exact st_load rfl (e6) (ld2 hG.b2) (hK _ _ rfl hG (Below.refl _ _))
    · intro hp K hK
      refine g_no rfl ?_
      exact st_load rfl (e7) (ld4 hG.b3) (hK _ _ rfl hG (Below.refl _ _))
    · intro hp K hK
      refine g_no rfl ?_
      have e13 : b.eval (.tmp 13) = .agg #[.int .i64 n0, .int .i64 n1] := i13.trans (hp 0 (by kernel_rfl))
      have e14 : b.eval (.tmp 14) = .agg #[.int .i64 k0, .int .i64 k1] := i14.trans (hp 1 (by kernel_rfl))
      have e15 : b.eval (.tmp 15) = .agg #[.int .i64 s0, .int .i64 s1] := i15.trans (hp 2 (by kernel_rfl))
      have e16 : b.eval (.tmp 16) = .agg #[.int .i64 p0, .int .i64 p1, .int .i64 p2, .int .i64 p3] := i16.trans (hp 3 (by kernel_rfl))
      refine st_call rfl (by first | (simp only [List.map_toArray, List.map_cons, List.map_nil, eval_const, e13, e14, e15, e16]; done) | (simp only [List.map_toArray, List.map_cons, List.map_nil, eval_const, e13, e14, e15, e16]; rfl)) (by kernel_rfl) ?_
      refine (of_good n0 n1 k0 k1 s0 s1 p0 p1 p2 p3 _ H.out).mono ?_
      rintro e w' ⟨rfl, hb'⟩
      exact ⟨_, rfl, hK _ _ rfl (hG.step hb') hb'⟩
    · intro hp K hK
      refine g_no rfl ?_
      have e17 : b.eval (.tmp 17) = .tuple #[.agg #[pl n0 n1, pl k0 k1, pl s0 s1, pl p0 p1, pl (n0 + p0 + p2) (n1 + p1 + p3)], .bool true] := i17.trans (hp 4 (by kernel_rfl))
      exact st_move (.inl rfl) (e17) (hK _ _ rfl hG (Below.refl _ _))
    · intro hp K hK
      refine g_no rfl ?_
      have e12 : b.eval (.tmp 12) = .tuple #[.agg #[pl n0 n1, pl k0 k1, pl s0 s1, pl p0 p1, pl (n0 + p0 + p2) (n1 + p1 + p3)], .bool true] := i12.trans (hp 5 (by kernel_rfl))
      exact st_extract rfl (e12) (by kernel_rfl) (hK _ _ rfl hG (Below.refl _ _))
    · intro hp K hK
      refine g_no rfl ?_
      have e12 : b.eval (.tmp 12) = .tuple #[.agg #[pl n0 n1, pl k0 k1, pl s0 s1, pl p0 p1, pl (n0 + p0 + p2) (n1 + p1 + p3)], .bool true] := i12.trans (hp 5 (by kernel_rfl))
      exact st_extract rfl (e12) (by kernel_rfl) (hK _ _ rfl hG (Below.refl _ _))
    · intro hp K hK
      refine g_no rfl ?_
      exact st_alloc rfl (new5 _) (hK _ _ ⟨_, rfl, blk_new _ _, hG.size⟩ (hG.alloc _) ((Below.refl _ _).alloc (Nat.le_refl _) _))
  intro vs W hG hp b hb
  have q0 : vs 0 = .agg #[.int .i64 n0, .int .i64 n1] := hp 0 (by decide)
  have q1 : vs 1 = .agg #[.int .i64 k0, .int .i64 k1] := hp 1 (by decide)
  have q2 : vs 2 = .agg #[.int .i64 s0, .int .i64 s1] := hp 2 (by decide)
  have q3 : vs 3 = .agg #[.int .i64 p0, .int .i64 p1, .int .i64 p2, .int .i64 p3] := hp 3 (by decide)
  have q4 : vs 4 = .tuple #[.agg #[pl n0 n1, pl k0 k1, pl s0 s1, pl p0 p1, pl (n0 + p0 + p2) (n1 + p1 + p3)], .bool true] := hp 4 (by decide)
  have q5 : vs 5 = .tuple #[.agg #[pl n0 n1, pl k0 k1, pl s0 s1, pl p0 p1, pl (n0 + p0 + p2) (n1 + p1 + p3)], .bool true] := hp 5 (by decide)
  have q6 : vs 6 = .agg #[pl n0 n1, pl k0 k1, pl s0 s1, pl p0 p1, pl (n0 + p0 + p2) (n1 + p1 + p3)] := hp 6 (by decide)
  have q7 : vs 7 = .bool true := hp 7 (by decide)
  have q8 : ∃ g, (vs 8) = .pointer (some ⟨g, 0, none⟩) ∧ W.heap[g]? = some z5 ∧ w.heap.size + 5 ≤ g := hp 8 (by decide)
  clear hp
  simp only [fill, Act.put, List.append_eq, List.cons_append, List.nil_append, List.take_succ_cons, List.take_zero, List.setIfInBounds_toArray, List.set_cons_succ, List.set_cons_zero, Nat.reduceAdd, Nat.zero_add, q0, q1, q2, q3, q4, q5, q6, q7] at hb
  subst hb
  simp only [List.append_eq, List.cons_append, List.nil_append, List.drop_succ_cons, List.drop_zero]
  clear q0 q1 q2 q3 q4 q5 q6 q7
  obtain ⟨g, hv, A, hg⟩ := q8
  rw [hv]
  clear hv J
  have z0 := zc0 A
  have y'0 := zf0 A
  have z1 := zc1 A
  have y'1 := zf1 A
  have z2 := zc2 A
  have y'2 := zf2 A
  have z3 := zc3 A
  have y'3 := zf3 A
  have z4 := zc4 A
  have y'4 := zf4 A
  go_wp2
  clear z0 y'0 z1 y'1 z2 y'2 z3 y'3 z4 y'4
  have hJ := (((((hG.set hg 0 (pl n0 n1)).set hg 1 (pl k0 k1)).set hg 2 (pl s0 s1)).set hg 3 (pl p0 p1)).set hg 4 (pl (n0 + p0 + p2) (n1 + p1 + p3)))
  have hA : (((((W.setCell ⟨g, 0, none⟩ (pl n0 n1)).setCell ⟨g, 1, none⟩ (pl k0 k1)).setCell ⟨g, 2, none⟩ (pl s0 s1)).setCell ⟨g, 3, none⟩ (pl p0 p1)).setCell ⟨g, 4, none⟩ (pl (n0 + p0 + p2) (n1 + p1 + p3))).heap[g]? = some (.cells #[pl n0 n1, pl k0 k1, pl s0 s1, pl p0 p1, pl (n0 + p0 + p2) (n1 + p1 + p3)] 53 (0, 0)) := z5_put A _ _ _ _ _ _ _ _ _ _
  generalize ((((W.setCell ⟨g, 0, none⟩ (pl n0 n1)).setCell ⟨g, 1, none⟩ (pl k0 k1)).setCell ⟨g, 2, none⟩ (pl s0 s1)).setCell ⟨g, 3, none⟩ (pl p0 p1)).setCell ⟨g, 4, none⟩ (pl (n0 + p0 + p2) (n1 + p1 + p3)) = V at *
  clear hG A
  refine HK2.out _ _ ?_
  clear HK2
  have c40 := blk_cell hJ.b4 0
  have f40 := blk_frozen hJ.b4 0
  replace c40 := c40.trans rfl
  have c41 := blk_cell hJ.b4 1
  have f41 := blk_frozen hJ.b4 1
  replace c41 := c41.trans rfl
  clear c40 f40 c41 f41
  apply wp_seq_k
  intro K3 hK3
  have HK3 := Lib.hid hK3
  clear hK3
  go_wp2
  refine HK3.out _ _ ?_
  clear HK3
  apply wp_seq_k
  intro K4 hK4
  have HK4 := Lib.hid hK4
  clear hK4
  obtain ⟨h00, h01, h02, h03, h04, h10, h11, h12, h13, h14, ha, hb⟩ := goodV_iff.1 H.out
  refine wp_listed (R := fun W W' => Below W.heap.size W W') 2 [.val (.agg #[pl n0 n1, pl k0 k1, pl s0 s1, pl p0 p1, pl (n0 + p0 + p2) (n1 + p1 + p3)]), .val (.agg #[.int .i64 (((n0 + p0 + p2) - k0) / s0 + 1), .int .i64 (((n1 + p1 + p3) - k1) / s1 + 1)])] (fun W => OU n0 n1 k0 k1 s0 s1 p0 p1 p2 p3 w W ∧ W.heap[g]? = some (.cells #[pl n0 n1, pl k0 k1, pl s0 s1, pl p0 p1, pl (n0 + p0 + p2) (n1 + p1 + p3)] 53 (0, 0))) (by kernel_rfl) ⟨hJ, hA⟩ ?_ ?_
  · intro vs W hG b hb
    have e10 : b.eval (.tmp 10) = .pointer (some ⟨g, 0, none⟩) := (congrArg (fun x => Act.eval x (.tmp 10)) hb).trans ((fill_out _ 0 _ (by kernel_rfl)).trans rfl)
    have i23 : b.eval (.tmp 23) = vs 0 := (congrArg (fun x => Act.eval x (.tmp 23)) hb).trans ((fill_in _ 0 0 _ _ 23 (by kernel_rfl) rfl rfl (by simp)).trans (congrArg vs (Nat.zero_add _)))
    clear hb
    refine And.intro ?_ (And.intro ?_ (trivial))
    · intro hp K hK
      refine g_no rfl ?_
      exact st_load rfl (e10) (ld5 hG.2) (hK _ _ rfl hG (Below.refl _ _))
    · intro hp K hK
      refine g_no rfl ?_
      have e23 : b.eval (.tmp 23) = .agg #[pl n0 n1, pl k0 k1, pl s0 s1, pl p0 p1, pl (n0 + p0 + p2) (n1 + p1 + p3)] := i23.trans (hp 0 (by kernel_rfl))
      refine st_call rfl (by first | (simp only [List.map_toArray, List.map_cons, List.map_nil, eval_const, e23]; done) | (simp only [List.map_toArray, List.map_cons, List.map_nil, eval_const, e23]; rfl)) (by kernel_rfl) ?_
      refine (out_is n0 n1 k0 k1 s0 s1 p0 p1 (n0 + p0 + p2) (n1 + p1 + p3) _ ⟨by omega, by omega⟩ ⟨by omega, by omega⟩ ⟨by omega, by omega⟩ ⟨by omega, by omega⟩ ⟨by omega, by omega⟩ ⟨by omega, by omega⟩).mono ?_
      rintro e w' ⟨rfl, hb'⟩
      exact ⟨_, rfl, hK _ _ rfl ⟨hG.1.step hb', blk_below hG.2 hb'⟩ hb'⟩
  intro vs W hG hp b hb
  have q0 : vs 0 = .agg #[pl n0 n1, pl k0 k1, pl s0 s1, pl p0 p1, pl (n0 + p0 + p2) (n1 + p1 + p3)] := hp 0 (by decide)
  have q1 : vs 1 = .agg #[.int .i64 (((n0 + p0 + p2) - k0) / s0 + 1), .int .i64 (((n1 + p1 + p3) - k1) / s1 + 1)] := hp 1 (by decide)
  clear hp
  simp only [fill, Act.put, List.append_eq, List.cons_append, List.nil_append, List.take_succ_cons, List.take_zero, List.setIfInBounds_toArray, List.set_cons_succ, List.set_cons_zero, Nat.reduceAdd, Nat.zero_add, q0, q1] at hb
  subst hb
  simp only [List.append_eq, List.cons_append, List.nil_append, List.drop_succ_cons, List.drop_zero]
  clear q0 q1
  have c40 := blk_cell hG.1.b4 0
  have f40 := blk_frozen hG.1.b4 0
  replace c40 := c40.trans rfl
  have c41 := blk_cell hG.1.b4 1
  have f41 := blk_frozen hG.1.b4 1
  replace c41 := c41.trans rfl
  have hG := Lib.hid hG
  clear hJ hA h00 h01 h02 h03 h04 h10 h11 h12 h13 h14 ha hb
  go_wp2
  refine HK4.out _ _ ?_
  clear HK4
  go_wp2
  refine bodyPost_ret (results_ct rfl _ _ (w.heap.size + 1 + 1 + 1 + 1) 34 #[.int .i64 (((n0 + p0 + p2) - k0) / s0 + 1), .int .i64 (((n1 + p1 + p3) - k1) / s1 + 1)] (0, 0) _ rfl (blk_put (blk_put hG.out.1.b4 0 _ rfl) 1 _ rfl) Try.underlying34 rfl (by kernel_rfl)) rfl ?_
  exact ⟨rfl, below_set (below_set hG.out.1.bel (by omega)) (by omega)⟩
set_option maxHeartbeats 4000000 in
theorem Out_bad (n0 n1 k0 k1 s0 s1 p0 p1 p2 p3 : Int) (w : World) (h : goodV n0 n1 k0 k1 s0 s1 p0 p1 p2 p3 = false) : Calls Try.prog 20 #[.agg #[.int .i64 n0, .int .i64 n1], .agg #[.int .i64 k0, .int .i64 k1], .agg #[.int .i64 s0, .int .i64 s1], .agg #[.int .i64 p0, .int .i64 p1, .int .i64 p2, .int .i64 p3]] w (fun e w' => e = .returned (.tuple #[.agg #[.int .i64 0, .int .i64 0], .bool false]) ∧ Below w.heap.size w w') := by
  have H := Lib.hid h
  clear h
  have J := Lib.hid (OU.start n0 n1 k0 k1 s0 s1 p0 p1 p2 p3 w)
  go_enter Try.func20, Try.ntmps20
  apply wp_seq_k
  intro K1 hK1
  have HK1 := Lib.hid hK1
  clear hK1
  go_wp2
  refine HK1.out _ _ ?_
  clear HK1
  generalize ((((w.alloc (box2 n0 n1)).alloc (box2 k0 k1)).alloc (box2 s0 s1)).alloc (box4 p0 p1 p2 p3)).alloc (box2 0 0) = u0 at *
  replace J := J.out
  apply wp_seq_k
  intro K2 hK2
  have HK2 := Lib.hid hK2
  clear hK2
  refine wp_listed (R := fun W W' => Below W.heap.size W W') 9 [.val (.agg #[.int .i64 n0, .int .i64 n1]), .val (.agg #[.int .i64 k0, .int .i64 k1]), .val (.agg #[.int .i64 s0, .int .i64 s1]), .val (.agg #[.int .i64 p0, .int .i64 p1, .int .i64 p2, .int .i64 p3]), ⟨fun v _ => ∃ x0 y0 x1 y1 x2 y2 x3 y3 x4 y4 : Nat, v = .tuple #[.agg #[.complex .f64 x0 y0, .complex .f64 x1 y1, .complex .f64 x2 y2, .complex .f64 x3 y3, .complex .f64 x4 y4], .bool false], fun _ _ _ h _ => h⟩, ⟨fun v _ => ∃ x0 y0 x1 y1 x2 y2 x3 y3 x4 y4 : Nat, v = .tuple #[.agg #[.complex .f64 x0 y0, .complex .f64 x1 y1, .complex .f64 x2 y2, .complex .f64 x3 y3, .complex .f64 x4 y4], .bool false], fun _ _ _ h _ => h⟩, ⟨fun v _ => ∃ x0 y0 x1 y1 x2 y2 x3 y3 x4 y4 : Nat, v = .agg #[.complex .f64 x0 y0, .complex .f64 x1 y1, .complex .f64 x2 y2, .complex .f64 x3 y3, .complex .f64 x4 y4], fun _ _ _ h _ => h⟩, .val (.bool false), newSpec z5 (w.heap.size + 5)] (fun W => OU n0 n1 k0 k1 s0 s1 p0 p1 p2 p3 w W) (by kernel_rfl) J ?_ ?_
  · intro vs W hG b hb
    have e4 : b.eval (.tmp 4) = .pointer (some ⟨w.heap.size, 0, none⟩) := (congrArg (fun x => Act.eval x (.tmp 4)) hb).trans ((fill_out _ 0 _ (by kernel_rfl)).trans rfl)
    have e5 : b.eval (.tmp 5) = .pointer (some ⟨w.heap.size + 1, 0, none⟩) := (congrArg (fun x => Act.eval x (.tmp 5)) hb).trans ((fill_out _ 0 _ (by kernel_rfl)).trans rfl)
    have e6 : b.eval (.tmp 6) = .pointer (some ⟨w.heap.size + 1 + 1, 0, none⟩) := (congrArg (fun x => Act.eval x (.tmp 6)) hb).trans ((fill_out _ 0 _ (by kernel_rfl)).trans rfl)
    have e7 : b.eval (.tmp 7) = .pointer (some ⟨w.heap.size + 1 + 1 + 1, 0, none⟩) := (congrArg (fun x => Act.eval x (.tmp 7)) hb).trans ((fill_out _ 0 _ (by kernel_rfl)).trans rfl)
    have i12 : b.eval (.tmp 12) = vs 5 := (congrArg (fun x => Act.eval x (.tmp 12)) hb).trans ((fill_in _ 0 5 _ _ 12 (by kernel_rfl) rfl rfl (by simp)).trans (congrArg vs (Nat.zero_add _)))
    have i13 : b.eval (.tmp 13) = vs 0 := (congrArg (fun x => Act.eval x (.tmp 13)) hb).trans ((fill_in _ 0 0 _ _ 13 (by kernel_rfl) rfl rfl (by simp)).trans (congrArg vs (Nat.zero_add _)))
    have i14 : b.eval (.tmp 14) = vs 1 := (congrArg (fun x => Act.eval x (.tmp 14)) hb).trans ((fill_in _ 0 1 _ _ 14 (by kernel_rfl) rfl rfl (by simp)).trans (congrArg vs (Nat.zero_add _)))
    have i15 : b.eval (.tmp 15) = vs 2 := (congrArg (fun x => Act.eval x (.tmp 15)) hb).trans ((fill_in _ 0 2 _ _ 15 (by kernel_rfl) rfl rfl (by simp)).trans (congrArg vs (Nat.zero_add _)))
    have i16 : b.eval (.tmp 16) = vs 3 := (congrArg (fun x => Act.eval x (.tmp 16)) hb).trans ((fill_in _ 0 3 _ _ 16 (by kernel_rfl) rfl rfl (by simp)).trans (congrArg vs (Nat.zero_add _)))
    have i17 : b.eval (.tmp 17) = vs 4 := (congrArg (fun x => Act.eval x (.tmp 17)) hb).trans ((fill_in _ 0 4 _ _ 17 (by kernel_rfl) rfl rfl (by simp)).trans (congrArg vs (Nat.zero_add _)))
    clear hb
    refine And.intro ?_ (And.intro ?_ (And.intro ?_ (And.intro ?_ (And.intro ?_ (And.intro ?_ (And.intro ?_ (And.intro ?_ (And.intro ?_ (trivial)))))))))
    · intro hp K hK
      refine g_no rfl ?_
      exact st_load rfl (e4) (ld2 hG.b0) (hK _ _ rfl hG (Below.refl _ _))
    · intro hp K hK
      refine g_no rfl ?_
      exact st_load rfl (e5) (ld2 hG.b1) (hK _ _ rfl hG (Below.refl _ _))
    · intro hp K hK
      refine g_no rfl ?_
      exact st_load rfl (e6) (ld2 hG.b2) (hK _ _ rfl hG (Below.refl _ _))
    · intro hp K hK
      refine g_no rfl ?_
      exact st_load rfl (e7) (ld4 hG.b3) (hK _ _ rfl hG (Below.refl _ _))
    · intro hp K hK
      refine g_no rfl ?_
      have e13 : b.eval (.tmp 13) = .agg #[.int .i64 n0, .int .i64 n1] := i13.trans (hp 0 (by kernel_rfl))
      have e14 : b.eval (.tmp 14) = .agg #[.int .i64 k0, .int .i64 k1] := i14.trans (hp 1 (by kernel_rfl))
      have e15 : b.eval (.tmp 15) = .agg #[.int .i64 s0, .int .i64 s1] := i15.trans (hp 2 (by kernel_rfl))
      have e16 : b.eval (.tmp 16) = .agg #[.int .i64 p0, .int .i64 p1, .int .i64 p2, .int .i64 p3] := i16.trans (hp 3 (by kernel_rfl))
      refine st_call rfl (by first | (simp only [List.map_toArray, List.map_cons, List.map_nil, eval_const, e13, e14, e15, e16]; done) | (simp only [List.map_toArray, List.map_cons, List.map_nil, eval_const, e13, e14, e15, e16]; rfl)) (by kernel_rfl) ?_
      refine (of_bad n0 n1 k0 k1 s0 s1 p0 p1 p2 p3 _ H.out).mono ?_
      rintro e w' ⟨x0, y0, x1, y1, x2, y2, x3, y3, x4, y4, rfl, hb'⟩
      exact ⟨_, rfl, hK _ _ ⟨x0, y0, x1, y1, x2, y2, x3, y3, x4, y4, rfl⟩ (hG.step hb') hb'⟩
    · intro hp K hK
      refine g_no rfl ?_
      have q4 : ∃ x0 y0 x1 y1 x2 y2 x3 y3 x4 y4 : Nat, (vs 4) = .tuple #[.agg #[.complex .f64 x0 y0, .complex .f64 x1 y1, .complex .f64 x2 y2, .complex .f64 x3 y3, .complex .f64 x4 y4], .bool false] := hp 4 (by kernel_rfl)
      obtain ⟨x0, y0, x1, y1, x2, y2, x3, y3, x4, y4, hv⟩ := q4
      have e17 := i17.trans hv
      exact st_move (.inl rfl) (e17) (hK _ _ ⟨x0, y0, x1, y1, x2, y2, x3, y3, x4, y4, rfl⟩ hG (Below.refl _ _))
    · intro hp K hK
      refine g_no rfl ?_
      have q5 : ∃ x0 y0 x1 y1 x2 y2 x3 y3 x4 y4 : Nat, (vs 5) = .tuple #[.agg #[.complex .f64 x0 y0, .complex .f64 x1 y1, .complex .f64 x2 y2, .complex .f64 x3 y3, .complex .f64 x4 y4], .bool false] := hp 5 (by kernel_rfl)
      obtain ⟨x0, y0, x1, y1, x2, y2, x3, y3, x4, y4, hv⟩ := q5
      have e12 := i12.trans hv
      exact st_extract rfl (e12) (by kernel_rfl) (hK _ _ ⟨x0, y0, x1, y1, x2, y2, x3, y3, x4, y4, rfl⟩ hG (Below.refl _ _))
    · intro hp K hK
      refine g_no rfl ?_
      have q5 : ∃ x0 y0 x1 y1 x2 y2 x3 y3 x4 y4 : Nat, (vs 5) = .tuple #[.agg #[.complex .f64 x0 y0, .complex .f64 x1 y1, .complex .f64 x2 y2, .complex .f64 x3 y3, .complex .f64 x4 y4], .bool false] := hp 5 (by kernel_rfl)
      obtain ⟨x0, y0, x1, y1, x2, y2, x3, y3, x4, y4, hv⟩ := q5
      have e12 := i12.trans hv
      exact st_extract rfl (e12) (by kernel_rfl) (hK _ _ rfl hG (Below.refl _ _))
    · intro hp K hK
      refine g_no rfl ?_
      exact st_alloc rfl (new5 _) (hK _ _ ⟨_, rfl, blk_new _ _, hG.size⟩ (hG.alloc _) ((Below.refl _ _).alloc (Nat.le_refl _) _))
  intro vs W hG hp b hb
  have q0 : vs 0 = .agg #[.int .i64 n0, .int .i64 n1] := hp 0 (by decide)
  have q1 : vs 1 = .agg #[.int .i64 k0, .int .i64 k1] := hp 1 (by decide)
  have q2 : vs 2 = .agg #[.int .i64 s0, .int .i64 s1] := hp 2 (by decide)
  have q3 : vs 3 = .agg #[.int .i64 p0, .int .i64 p1, .int .i64 p2, .int .i64 p3] := hp 3 (by decide)
  have q4 : ∃ x0 y0 x1 y1 x2 y2 x3 y3 x4 y4 : Nat, (vs 4) = .tuple #[.agg #[.complex .f64 x0 y0, .complex .f64 x1 y1, .complex .f64 x2 y2, .complex .f64 x3 y3, .complex .f64 x4 y4], .bool false] := hp 4 (by decide)
  have q5 : ∃ x0 y0 x1 y1 x2 y2 x3 y3 x4 y4 : Nat, (vs 5) = .tuple #[.agg #[.complex .f64 x0 y0, .complex .f64 x1 y1, .complex .f64 x2 y2, .complex .f64 x3 y3, .complex .f64 x4 y4], .bool false] := hp 5 (by decide)
  have q6 : ∃ x0 y0 x1 y1 x2 y2 x3 y3 x4 y4 : Nat, (vs 6) = .agg #[.complex .f64 x0 y0, .complex .f64 x1 y1, .complex .f64 x2 y2, .complex .f64 x3 y3, .complex .f64 x4 y4] := hp 6 (by decide)
  have q7 : vs 7 = .bool false := hp 7 (by decide)
  have q8 : ∃ g, (vs 8) = .pointer (some ⟨g, 0, none⟩) ∧ W.heap[g]? = some z5 ∧ w.heap.size + 5 ≤ g := hp 8 (by decide)
  clear hp
  simp only [fill, Act.put, List.append_eq, List.cons_append, List.nil_append, List.take_succ_cons, List.take_zero, List.setIfInBounds_toArray, List.set_cons_succ, List.set_cons_zero, Nat.reduceAdd, Nat.zero_add, q0, q1, q2, q3, q7] at hb
  subst hb
  simp only [List.append_eq, List.cons_append, List.nil_append, List.drop_succ_cons, List.drop_zero]
  clear q0 q1 q2 q3 q7
  obtain ⟨g, hv, A, hg⟩ := q8
  rw [hv]
  clear hv J
  clear q4 q5
  obtain ⟨x0, y0, x1, y1, x2, y2, x3, y3, x4, y4, hv⟩ := q6
  rw [hv]
  clear hv
  have z0 := zc0 A
  have y'0 := zf0 A
  have z1 := zc1 A
  have y'1 := zf1 A
  have z2 := zc2 A
  have y'2 := zf2 A
  have z3 := zc3 A
  have y'3 := zf3 A
  have z4 := zc4 A
  have y'4 := zf4 A
  go_wp2
  clear z0 y'0 z1 y'1 z2 y'2 z3 y'3 z4 y'4
  have hJ := (((((hG.set hg 0 (.complex .f64 x0 y0)).set hg 1 (.complex .f64 x1 y1)).set hg 2 (.complex .f64 x2 y2)).set hg 3 (.complex .f64 x3 y3)).set hg 4 (.complex .f64 x4 y4))
  have hA : (((((W.setCell ⟨g, 0, none⟩ (.complex .f64 x0 y0)).setCell ⟨g, 1, none⟩ (.complex .f64 x1 y1)).setCell ⟨g, 2, none⟩ (.complex .f64 x2 y2)).setCell ⟨g, 3, none⟩ (.complex .f64 x3 y3)).setCell ⟨g, 4, none⟩ (.complex .f64 x4 y4)).heap[g]? = some (.cells #[(.complex .f64 x0 y0), (.complex .f64 x1 y1), (.complex .f64 x2 y2), (.complex .f64 x3 y3), (.complex .f64 x4 y4)] 53 (0, 0)) := z5_put A _ _ _ _ _ _ _ _ _ _
  generalize ((((W.setCell ⟨g, 0, none⟩ (.complex .f64 x0 y0)).setCell ⟨g, 1, none⟩ (.complex .f64 x1 y1)).setCell ⟨g, 2, none⟩ (.complex .f64 x2 y2)).setCell ⟨g, 3, none⟩ (.complex .f64 x3 y3)).setCell ⟨g, 4, none⟩ (.complex .f64 x4 y4) = V at *
  clear hG A
  refine HK2.out _ _ ?_
  clear HK2
  have c40 := blk_cell hJ.b4 0
  have f40 := blk_frozen hJ.b4 0
  replace c40 := c40.trans rfl
  have c41 := blk_cell hJ.b4 1
  have f41 := blk_frozen hJ.b4 1
  replace c41 := c41.trans rfl
  have hJ := Lib.hid hJ
  have hA := Lib.hid hA
  go_wp2
  refine bodyPost_ret (results_ct rfl _ _ (w.heap.size + 1 + 1 + 1 + 1) 34 #[.int .i64 0, .int .i64 0] (0, 0) _ rfl (blk_put (blk_put hJ.out.b4 0 _ rfl) 1 _ rfl) Try.underlying34 rfl (by kernel_rfl)) rfl ?_
  exact ⟨rfl, below_set (below_set hJ.out.bel (by omega)) (by omega)⟩
end Go.Proofs.Ytfcimgdogkpbcaa.W
