/- Window: Inside. -/
import Derived.Test.YtfcimgdogkpbcaaW8
namespace Go.Proofs.Ytfcimgdogkpbcaa.W
open Go.RowKit T1 F Dr
set_option linter.unusedVariables false
set_option linter.unusedSimpArgs false
set_option maxRecDepth 100000
attribute [local go_sem] run_store_complex

theorem new2 (W : World) : (Instr.alloc 34 true (.tuple #[])).run Try.prog W = .ok (.pointer (some ⟨W.heap.size, 0, none⟩)) (W.alloc (box2 0 0)) := by simp [go_sem]
structure OI (n0 n1 k0 k1 s0 s1 p0 p1 p2 p3 : Int) (w W : World) : Prop where
  b0 : W.heap[w.heap.size]? = some (box2 n0 n1)
  b1 : W.heap[w.heap.size + 1]? = some (box2 k0 k1)
  b2 : W.heap[w.heap.size + 1 + 1]? = some (box2 s0 s1)
  b3 : W.heap[w.heap.size + 1 + 1 + 1]? = some (box4 p0 p1 p2 p3)
  b4 : W.heap[w.heap.size + 1 + 1 + 1 + 1]? = some (box4 0 0 0 0)
  bel : Below w.heap.size w W
theorem OI.step {n0 n1 k0 k1 s0 s1 p0 p1 p2 p3 : Int} {w W : World} {W' : World} (J : OI n0 n1 k0 k1 s0 s1 p0 p1 p2 p3 w W) (hb : Below W.heap.size W W') : OI n0 n1 k0 k1 s0 s1 p0 p1 p2 p3 w W' := ⟨blk_below J.b0 hb, blk_below J.b1 hb, blk_below J.b2 hb, blk_below J.b3 hb, blk_below J.b4 hb, below_step J.bel hb⟩
theorem OI.drew {n0 n1 k0 k1 s0 s1 p0 p1 p2 p3 : Int} {w W : World} (J : OI n0 n1 k0 k1 s0 s1 p0 p1 p2 p3 w W) : OI n0 n1 k0 k1 s0 s1 p0 p1 p2 p3 w W.drew := ⟨J.b0, J.b1, J.b2, J.b3, J.b4, J.bel.drew⟩
theorem OI.alloc {n0 n1 k0 k1 s0 s1 p0 p1 p2 p3 : Int} {w W : World} (J : OI n0 n1 k0 k1 s0 s1 p0 p1 p2 p3 w W) (o : Obj) : OI n0 n1 k0 k1 s0 s1 p0 p1 p2 p3 w (W.alloc o) := J.step ((Below.refl _ _).alloc (Nat.le_refl _) o)
theorem OI.size {n0 n1 k0 k1 s0 s1 p0 p1 p2 p3 : Int} {w W : World} (J : OI n0 n1 k0 k1 s0 s1 p0 p1 p2 p3 w W) : w.heap.size + 5 ≤ W.heap.size := by
  have := (Array.getElem?_eq_some_iff.1 J.b4).1
  omega
theorem OI.start (n0 n1 k0 k1 s0 s1 p0 p1 p2 p3 : Int) (w : World) : OI n0 n1 k0 k1 s0 s1 p0 p1 p2 p3 w (((((w.alloc (box2 n0 n1)).alloc (box2 k0 k1)).alloc (box2 s0 s1)).alloc (box4 p0 p1 p2 p3)).alloc (box4 0 0 0 0)) := by
  have e1 : ((w.alloc (box2 n0 n1))).heap.size = w.heap.size + 1 := by simp
  have e2 : (((w.alloc (box2 n0 n1)).alloc (box2 k0 k1))).heap.size = w.heap.size + 1 + 1 := by simp
  have e3 : ((((w.alloc (box2 n0 n1)).alloc (box2 k0 k1)).alloc (box2 s0 s1))).heap.size = w.heap.size + 1 + 1 + 1 := by simp
  have e4 : (((((w.alloc (box2 n0 n1)).alloc (box2 k0 k1)).alloc (box2 s0 s1)).alloc (box4 p0 p1 p2 p3))).heap.size = w.heap.size + 1 + 1 + 1 + 1 := by simp
  have k0' := blk_new w (box2 n0 n1)
  have k1' := blk_new (w.alloc (box2 n0 n1)) (box2 k0 k1)
  rw [e1] at k1'
  have k2' := blk_new ((w.alloc (box2 n0 n1)).alloc (box2 k0 k1)) (box2 s0 s1)
  rw [e2] at k2'
  have k3' := blk_new (((w.alloc (box2 n0 n1)).alloc (box2 k0 k1)).alloc (box2 s0 s1)) (box4 p0 p1 p2 p3)
  rw [e3] at k3'
  have k4' := blk_new ((((w.alloc (box2 n0 n1)).alloc (box2 k0 k1)).alloc (box2 s0 s1)).alloc (box4 p0 p1 p2 p3)) (box4 0 0 0 0)
  rw [e4] at k4'
  exact ⟨blk_alloc (blk_alloc (blk_alloc (blk_alloc (k0') _) _) _) _, blk_alloc (blk_alloc (blk_alloc (k1') _) _) _, blk_alloc (blk_alloc (k2') _) _, blk_alloc (k3') _, k4', below_alloc (below_alloc (below_alloc (below_alloc (below_alloc (Below.refl _ _) _) _) _) _) _⟩
theorem OI.set {n0 n1 k0 k1 s0 s1 p0 p1 p2 p3 : Int} {w W : World} {g : Nat} (J : OI n0 n1 k0 k1 s0 s1 p0 p1 p2 p3 w W) (hg : w.heap.size + 5 ≤ g) (i : Nat) (v : Value) : OI n0 n1 k0 k1 s0 s1 p0 p1 p2 p3 w (W.setCell ⟨g, i, none⟩ v) :=
  ⟨(Below.heap_setCell _ _ _ _ (by show _ ≠ g; omega)).trans J.b0, (Below.heap_setCell _ _ _ _ (by show _ ≠ g; omega)).trans J.b1, (Below.heap_setCell _ _ _ _ (by show _ ≠ g; omega)).trans J.b2, (Below.heap_setCell _ _ _ _ (by show _ ≠ g; omega)).trans J.b3, (Below.heap_setCell _ _ _ _ (by show _ ≠ g; omega)).trans J.b4, below_set J.bel (by omega)⟩
def outV (n k s p q : Int) : Int := (n + p + q - k) / s + 1
def noneB (n0 n1 k0 k1 s0 s1 p0 p1 p2 p3 : Int) : Bool := decide (toV n0 k0 s0 p0 (outV n0 k0 s0 p0 p2) ≤ frV s0 p0) || decide (toV n1 k1 s1 p1 (outV n1 k1 s1 p1 p3) ≤ frV s1 p1)
/-- Inside's four numbers. -/
def insV (n0 n1 k0 k1 s0 s1 p0 p1 p2 p3 : Int) : Nat → Int
  | 0 => bif noneB n0 n1 k0 k1 s0 s1 p0 p1 p2 p3 then 0 else frV s0 p0
  | 1 => bif noneB n0 n1 k0 k1 s0 s1 p0 p1 p2 p3 then 0 else toV n0 k0 s0 p0 (outV n0 k0 s0 p0 p2)
  | 2 => bif noneB n0 n1 k0 k1 s0 s1 p0 p1 p2 p3 then 0 else frV s1 p1
  | _ => bif noneB n0 n1 k0 k1 s0 s1 p0 p1 p2 p3 then 0 else toV n1 k1 s1 p1 (outV n1 k1 s1 p1 p3)
theorem out_small {n k s p q : Int} (h : (1 ≤ n ∧ n ≤ 64) ∧ (1 ≤ k ∧ k ≤ 8) ∧ (1 ≤ s ∧ s ≤ 8) ∧ (0 ≤ p ∧ p ≤ k - 1) ∧ (0 ≤ q ∧ q ≤ k - 1) ∧ k ≤ n + p + q) : 0 ≤ outV n k s p q ∧ outV n k s p q ≤ 100000 := by
  have q1 : (n + p + q - k) / s ≤ n + p + q - k := Int.ediv_le_self _ (by omega)
  have q2 : 0 ≤ (n + p + q - k) / s := Int.ediv_nonneg (by omega) (by omega)
  unfold outV
  omega
set_option maxHeartbeats 4000000 in
theorem Inside_good (n0 n1 k0 k1 s0 s1 p0 p1 p2 p3 : Int) (w : World) (h : goodV n0 n1 k0 k1 s0 s1 p0 p1 p2 p3 = true) : Calls Try.prog 24 #[.agg #[.int .i64 n0, .int .i64 n1], .agg #[.int .i64 k0, .int .i64 k1], .agg #[.int .i64 s0, .int .i64 s1], .agg #[.int .i64 p0, .int .i64 p1, .int .i64 p2, .int .i64 p3]] w (fun e w' => e = .returned (.tuple #[.agg #[.int .i64 (insV n0 n1 k0 k1 s0 s1 p0 p1 p2 p3 0), .int .i64 (insV n0 n1 k0 k1 s0 s1 p0 p1 p2 p3 1), .int .i64 (insV n0 n1 k0 k1 s0 s1 p0 p1 p2 p3 2), .int .i64 (insV n0 n1 k0 k1 s0 s1 p0 p1 p2 p3 3)], .bool true]) ∧ Below w.heap.size w w') := by
  have H := Lib.hid h
  clear h
  have J := Lib.hid (OI.start n0 n1 k0 k1 s0 s1 p0 p1 p2 p3 w)
  go_enter Try.func24, Try.ntmps24
  apply wp_seq_k
  intro K1 hK1
  have HK1 := Lib.hid hK1
  clear hK1
  go_wp2
  refine HK1.out _ _ ?_
  clear HK1
  generalize ((((w.alloc (box2 n0 n1)).alloc (box2 k0 k1)).alloc (box2 s0 s1)).alloc (box4 p0 p1 p2 p3)).alloc (box4 0 0 0 0) = u0 at *
  replace J := J.out
  apply wp_seq_k
  intro K2 hK2
  have HK2 := Lib.hid hK2
  clear hK2
  refine wp_listed (R := fun W W' => Below W.heap.size W W') 9 [.val (.agg #[.int .i64 n0, .int .i64 n1]), .val (.agg #[.int .i64 k0, .int .i64 k1]), .val (.agg #[.int .i64 s0, .int .i64 s1]), .val (.agg #[.int .i64 p0, .int .i64 p1, .int .i64 p2, .int .i64 p3]), .val (.tuple #[.agg #[pl n0 n1, pl k0 k1, pl s0 s1, pl p0 p1, pl (n0 + p0 + p2) (n1 + p1 + p3)], .bool true]), .val (.tuple #[.agg #[pl n0 n1, pl k0 k1, pl s0 s1, pl p0 p1, pl (n0 + p0 + p2) (n1 + p1 + p3)], .bool true]), .val (.agg #[pl n0 n1, pl k0 k1, pl s0 s1, pl p0 p1, pl (n0 + p0 + p2) (n1 + p1 + p3)]), .val (.bool true), newSpec (z5) (w.heap.size + 5)] (fun W => OI n0 n1 k0 k1 s0 s1 p0 p1 p2 p3 w W) (by kernel_rfl) J ?_ ?_
  · intro vs W hG b hb
    have e4 : b.eval (.tmp 4) = .pointer (some ⟨w.heap.size, 0, none⟩) := (congrArg (fun x => Act.eval x (.tmp 4)) hb).trans ((fill_out _ 0 _ (by kernel_rfl)).trans rfl)
    have e5 : b.eval (.tmp 5) = .pointer (some ⟨w.heap.size + 1, 0, none⟩) := (congrArg (fun x => Act.eval x (.tmp 5)) hb).trans ((fill_out _ 0 _ (by kernel_rfl)).trans rfl)
    have e6 : b.eval (.tmp 6) = .pointer (some ⟨w.heap.size + 1 + 1, 0, none⟩) := (congrArg (fun x => Act.eval x (.tmp 6)) hb).trans ((fill_out _ 0 _ (by kernel_rfl)).trans rfl)
    have e7 : b.eval (.tmp 7) = .pointer (some ⟨w.heap.size + 1 + 1 + 1, 0, none⟩) := (congrArg (fun x => Act.eval x (.tmp 7)) hb).trans ((fill_out _ 0 _ (by kernel_rfl)).trans rfl)
    have i17 : b.eval (.tmp 17) = vs 5 := (congrArg (fun x => Act.eval x (.tmp 17)) hb).trans ((fill_in _ 0 5 _ _ 17 (by kernel_rfl) rfl rfl (by simp)).trans (congrArg vs (Nat.zero_add _)))
    have i18 : b.eval (.tmp 18) = vs 0 := (congrArg (fun x => Act.eval x (.tmp 18)) hb).trans ((fill_in _ 0 0 _ _ 18 (by kernel_rfl) rfl rfl (by simp)).trans (congrArg vs (Nat.zero_add _)))
    have i19 : b.eval (.tmp 19) = vs 1 := (congrArg (fun x => Act.eval x (.tmp 19)) hb).trans ((fill_in _ 0 1 _ _ 19 (by kernel_rfl) rfl rfl (by simp)).trans (congrArg vs (Nat.zero_add _)))
    have i20 : b.eval (.tmp 20) = vs 2 := (congrArg (fun x => Act.eval x (.tmp 20)) hb).trans ((fill_in _ 0 2 _ _ 20 (by kernel_rfl) rfl rfl (by simp)).trans (congrArg vs (Nat.zero_add _)))
    have i21 : b.eval (.tmp 21) = vs 3 := (congrArg (fun x => Act.eval x (.tmp 21)) hb).trans ((fill_in _ 0 3 _ _ 21 (by kernel_rfl) rfl rfl (by simp)).trans (congrArg vs (Nat.zero_add _)))
    have i22 : b.eval (.tmp 22) = vs 4 := (congrArg (fun x => Act.eval x (.tmp 22)) hb).trans ((fill_in _ 0 4 _ _ 22 (by kernel_rfl) rfl rfl (by simp)).trans (congrArg vs (Nat.zero_add _)))
    clear hb
    refine And.intro ?_ (And.intro ?_ (And.intro ?_ (And.intro ?_ (And.intro ?_ (And.intro ?_ (And.intro ?_ (And.intro ?_ (And.intro ?_ (trivial)))))))))
    · intro hp K hK
      refine g_no rfl ?_
      exact st_load rfl (e4) (ld2 hG.b0) (hK _ _ rfl hG (Below.refl _ _))
    · intro hp K hK
      refine g_no rfl ?_
      exact st_load rfl (e5) (ld2 hG.b1) (hK _ _ rfl hG (Below.refl _ _))
    · intro hp K hK
      refine g_no rfl ?_
      exact st_load rfl (e6) (ld2 hG.b2) (hK _ _ rfl hG (Below.refl _ _))
    · intro hp K hK
      refine g_no rfl ?_
      exact st_load rfl (e7) (ld4 hG.b3) (hK _ _ rfl hG (Below.refl _ _))
    · intro hp K hK
      refine g_no rfl ?_
      have e18 : b.eval (.tmp 18) = .agg #[.int .i64 n0, .int .i64 n1] := i18.trans (hp 0 (by kernel_rfl))
      have e19 : b.eval (.tmp 19) = .agg #[.int .i64 k0, .int .i64 k1] := i19.trans (hp 1 (by kernel_rfl))
      have e20 : b.eval (.tmp 20) = .agg #[.int .i64 s0, .int .i64 s1] := i20.trans (hp 2 (by kernel_rfl))
      have e21 : b.eval (.tmp 21) = .agg #[.int .i64 p0, .int .i64 p1, .int .i64 p2, .int .i64 p3] := i21.trans (hp 3 (by kernel_rfl))
      refine st_call rfl (by first | (simp only [List.map_toArray, List.map_cons, List.map_nil, eval_const, e18, e19, e20, e21]; done) | (simp only [List.map_toArray, List.map_cons, List.map_nil, eval_const, e18, e19, e20, e21]; rfl)) (by kernel_rfl) ?_
      refine (of_good n0 n1 k0 k1 s0 s1 p0 p1 p2 p3 _ H.out).mono ?_
      rintro e w' ⟨rfl, hb'⟩
      exact ⟨_, rfl, hK _ _ rfl (hG.step hb') hb'⟩
    · intro hp K hK
      refine g_no rfl ?_
      have e22 : b.eval (.tmp 22) = .tuple #[.agg #[pl n0 n1, pl k0 k1, pl s0 s1, pl p0 p1, pl (n0 + p0 + p2) (n1 + p1 + p3)], .bool true] := i22.trans (hp 4 (by kernel_rfl))
      exact st_move (.inl rfl) (e22) (hK _ _ rfl hG (Below.refl _ _))
    · intro hp K hK
      refine g_no rfl ?_
      have e17 : b.eval (.tmp 17) = .tuple #[.agg #[pl n0 n1, pl k0 k1, pl s0 s1, pl p0 p1, pl (n0 + p0 + p2) (n1 + p1 + p3)], .bool true] := i17.trans (hp 5 (by kernel_rfl))
      exact st_extract rfl (e17) (by kernel_rfl) (hK _ _ rfl hG (Below.refl _ _))
    · intro hp K hK
      refine g_no rfl ?_
      have e17 : b.eval (.tmp 17) = .tuple #[.agg #[pl n0 n1, pl k0 k1, pl s0 s1, pl p0 p1, pl (n0 + p0 + p2) (n1 + p1 + p3)], .bool true] := i17.trans (hp 5 (by kernel_rfl))
      exact st_extract rfl (e17) (by kernel_rfl) (hK _ _ rfl hG (Below.refl _ _))
    · intro hp K hK
      refine g_no rfl ?_
      exact st_alloc rfl (new5 _) (hK _ _ ⟨_, rfl, blk_new _ _, hG.size⟩ (hG.alloc _) ((Below.refl _ _).alloc (Nat.le_refl _) _))
  intro vs W hG hp b hb
  have q0 : vs 0 = .agg #[.int .i64 n0, .int .i64 n1] := hp 0 (by decide)
  have q1 : vs 1 = .agg #[.int .i64 k0, .int .i64 k1] := hp 1 (by decide)
  have q2 : vs 2 = .agg #[.int .i64 s0, .int .i64 s1] := hp 2 (by decide)
  have q3 : vs 3 = .agg #[.int .i64 p0, .int .i64 p1, .int .i64 p2, .int .i64 p3] := hp 3 (by decide)
  have q4 : vs 4 = .tuple #[.agg #[pl n0 n1, pl k0 k1, pl s0 s1, pl p0 p1, pl (n0 + p0 + p2) (n1 + p1 + p3)], .bool true] := hp 4 (by decide)
  have q5 : vs 5 = .tuple #[.agg #[pl n0 n1, pl k0 k1, pl s0 s1, pl p0 p1, pl (n0 + p0 + p2) (n1 + p1 + p3)], .bool true] := hp 5 (by decide)
  have q6 : vs 6 = .agg #[pl n0 n1, pl k0 k1, pl s0 s1, pl p0 p1, pl (n0 + p0 + p2) (n1 + p1 + p3)] := hp 6 (by decide)
  have q7 : vs 7 = .bool true := hp 7 (by decide)
  have q8 : ∃ g, (vs 8) = .pointer (some ⟨g, 0, none⟩) ∧ W.heap[g]? = some (z5) ∧ w.heap.size + 5 ≤ g := hp 8 (by decide)
  clear hp
  simp only [fill, Act.put, List.append_eq, List.cons_append, List.nil_append, List.take_succ_cons, List.take_zero, List.setIfInBounds_toArray, List.set_cons_succ, List.set_cons_zero, Nat.reduceAdd, Nat.zero_add, q0, q1, q2, q3, q4, q5, q6, q7] at hb
  subst hb
  simp only [List.append_eq, List.cons_append, List.nil_append, List.drop_succ_cons, List.drop_zero]
  clear q0 q1 q2 q3 q4 q5 q6 q7
  obtain ⟨g, hv, A, hg⟩ := q8
  rw [hv]
  clear hv J
  have z0 := zc0 A
  have y'0 := zf0 A
  have z1 := zc1 A
  have y'1 := zf1 A
  have z2 := zc2 A
  have y'2 := zf2 A
  have z3 := zc3 A
  have y'3 := zf3 A
  have z4 := zc4 A
  have y'4 := zf4 A
  go_wp2
  clear z0 y'0 z1 y'1 z2 y'2 z3 y'3 z4 y'4
  have hJ := (((((hG.set hg 0 (pl n0 n1)).set hg 1 (pl k0 k1)).set hg 2 (pl s0 s1)).set hg 3 (pl p0 p1)).set hg 4 (pl (n0 + p0 + p2) (n1 + p1 + p3)))
  have hA : (((((W.setCell ⟨g, 0, none⟩ (pl n0 n1)).setCell ⟨g, 1, none⟩ (pl k0 k1)).setCell ⟨g, 2, none⟩ (pl s0 s1)).setCell ⟨g, 3, none⟩ (pl p0 p1)).setCell ⟨g, 4, none⟩ (pl (n0 + p0 + p2) (n1 + p1 + p3))).heap[g]? = some (.cells #[pl n0 n1, pl k0 k1, pl s0 s1, pl p0 p1, pl (n0 + p0 + p2) (n1 + p1 + p3)] 53 (0, 0)) := z5_put A _ _ _ _ _ _ _ _ _ _
  generalize ((((W.setCell ⟨g, 0, none⟩ (pl n0 n1)).setCell ⟨g, 1, none⟩ (pl k0 k1)).setCell ⟨g, 2, none⟩ (pl s0 s1)).setCell ⟨g, 3, none⟩ (pl p0 p1)).setCell ⟨g, 4, none⟩ (pl (n0 + p0 + p2) (n1 + p1 + p3)) = V at *
  clear hG A
  refine HK2.out _ _ ?_
  clear HK2
  apply wp_seq_k
  intro K3 hK3
  have HK3 := Lib.hid hK3
  clear hK3
  go_wp2
  refine HK3.out _ _ ?_
  clear HK3
  apply wp_seq_k
  intro K4 hK4
  have HK4 := Lib.hid hK4
  clear hK4
  obtain ⟨h00, h01, h02, h03, h04, h10, h11, h12, h13, h14, ha, hb⟩ := goodV_iff.1 H.out
  refine wp_listed (R := fun W W' => Below W.heap.size W W') 3 [.val (.agg #[pl n0 n1, pl k0 k1, pl s0 s1, pl p0 p1, pl (n0 + p0 + p2) (n1 + p1 + p3)]), .val (.agg #[.int .i64 (outV n0 k0 s0 p0 p2), .int .i64 (outV n1 k1 s1 p1 p3)]), newSpec (box2 0 0) (w.heap.size + 5)] (fun W => OI n0 n1 k0 k1 s0 s1 p0 p1 p2 p3 w W ∧ W.heap[g]? = some (.cells #[pl n0 n1, pl k0 k1, pl s0 s1, pl p0 p1, pl (n0 + p0 + p2) (n1 + p1 + p3)] 53 (0, 0))) (by kernel_rfl) ⟨hJ, hA⟩ ?_ ?_
  · intro vs W hG b hb
    have e10 : b.eval (.tmp 10) = .pointer (some ⟨g, 0, none⟩) := (congrArg (fun x => Act.eval x (.tmp 10)) hb).trans ((fill_out _ 0 _ (by kernel_rfl)).trans rfl)
    have i28 : b.eval (.tmp 28) = vs 0 := (congrArg (fun x => Act.eval x (.tmp 28)) hb).trans ((fill_in _ 0 0 _ _ 28 (by kernel_rfl) rfl rfl (by simp)).trans (congrArg vs (Nat.zero_add _)))
    clear hb
    refine And.intro ?_ (And.intro ?_ (And.intro ?_ (trivial)))
    · intro hp K hK
      refine g_no rfl ?_
      exact st_load rfl (e10) (ld5 hG.2) (hK _ _ rfl hG (Below.refl _ _))
    · intro hp K hK
      refine g_no rfl ?_
      have e28 : b.eval (.tmp 28) = .agg #[pl n0 n1, pl k0 k1, pl s0 s1, pl p0 p1, pl (n0 + p0 + p2) (n1 + p1 + p3)] := i28.trans (hp 0 (by kernel_rfl))
      refine st_call rfl (by first | (simp only [List.map_toArray, List.map_cons, List.map_nil, eval_const, e28]; done) | (simp only [List.map_toArray, List.map_cons, List.map_nil, eval_const, e28]; rfl)) (by kernel_rfl) ?_
      refine (out_is n0 n1 k0 k1 s0 s1 p0 p1 (n0 + p0 + p2) (n1 + p1 + p3) _ ⟨by omega, by omega⟩ ⟨by omega, by omega⟩ ⟨by omega, by omega⟩ ⟨by omega, by omega⟩ ⟨by omega, by omega⟩ ⟨by omega, by omega⟩).mono ?_
      rintro e w' ⟨rfl, hb'⟩
      exact ⟨_, rfl, hK _ _ rfl ⟨hG.1.step hb', blk_below hG.2 hb'⟩ hb'⟩
    · intro hp K hK
      refine g_no rfl ?_
      exact st_alloc rfl (new2 _) (hK _ _ ⟨_, rfl, blk_new _ _, hG.1.size⟩ ⟨hG.1.alloc _, blk_alloc hG.2 _⟩ ((Below.refl _ _).alloc (Nat.le_refl _) _))
  intro vs W hG hp b hb
  have q0 : vs 0 = .agg #[pl n0 n1, pl k0 k1, pl s0 s1, pl p0 p1, pl (n0 + p0 + p2) (n1 + p1 + p3)] := hp 0 (by decide)
  have q1 : vs 1 = .agg #[.int .i64 (outV n0 k0 s0 p0 p2), .int .i64 (outV n1 k1 s1 p1 p3)] := hp 1 (by decide)
  have q2 : ∃ g, (vs 2) = .pointer (some ⟨g, 0, none⟩) ∧ W.heap[g]? = some (box2 0 0) ∧ w.heap.size + 5 ≤ g := hp 2 (by decide)
  clear hp
  simp only [fill, Act.put, List.append_eq, List.cons_append, List.nil_append, List.take_succ_cons, List.take_zero, List.setIfInBounds_toArray, List.set_cons_succ, List.set_cons_zero, Nat.reduceAdd, Nat.zero_add, q0, q1] at hb
  subst hb
  simp only [List.append_eq, List.cons_append, List.nil_append, List.drop_succ_cons, List.drop_zero]
  clear q0 q1
  obtain ⟨g2, hv, A, hg2⟩ := q2
  rw [hv]
  clear hv hJ hA
  obtain ⟨hJ, -⟩ := hG
  have z0 : _ = some (Value.int .i64 0) := (blk_cell A 0).trans rfl
  have y0 := blk_frozen A 0
  have z1 : _ = some (Value.int .i64 0) := (blk_cell A 1).trans rfl
  have y1 := blk_frozen A 1
  have hJ := Lib.hid hJ
  go_wp2
  replace hJ := hJ.out
  have hG := (hJ.set hg2 0 (.int .i64 (outV n0 k0 s0 p0 p2))).set hg2 1 (.int .i64 (outV n1 k1 s1 p1 p3))
  have hA : ((W.setCell ⟨g2, 0, none⟩ (.int .i64 (outV n0 k0 s0 p0 p2))).setCell ⟨g2, 1, none⟩ (.int .i64 (outV n1 k1 s1 p1 p3))).heap[g2]? = some (box2 (outV n0 k0 s0 p0 p2) (outV n1 k1 s1 p1 p3)) := blk_put (blk_put A 0 _ rfl) 1 _ rfl
  generalize (W.setCell ⟨g2, 0, none⟩ (.int .i64 (outV n0 k0 s0 p0 p2))).setCell ⟨g2, 1, none⟩ (.int .i64 (outV n1 k1 s1 p1 p3)) = V at *
  clear hJ A z0 z1 y0 y1
  refine HK4.out _ _ ?_
  clear HK4
  apply wp_seq_k
  intro K5 hK5
  have HK5 := Lib.hid hK5
  clear hK5
  refine wp_listed (R := fun W W' => Below W.heap.size W W') 16 [.val (.pointer (some ⟨w.heap.size, 0, none⟩)), .val (.int .i64 n0), .val (.pointer (some ⟨w.heap.size + 1, 0, none⟩)), .val (.int .i64 k0), .val (.pointer (some ⟨w.heap.size + 1 + 1, 0, none⟩)), .val (.int .i64 s0), .val (.pointer (some ⟨w.heap.size + 1 + 1 + 1, 0, none⟩)), .val (.int .i64 p0), .val (.pointer (some ⟨g2, 0, none⟩)), .val (.int .i64 (outV n0 k0 s0 p0 p2)), .val (.tuple #[.int .i64 (frV s0 p0), .int .i64 (toV n0 k0 s0 p0 (outV n0 k0 s0 p0 p2))]), .val (.tuple #[.int .i64 (frV s0 p0), .int .i64 (toV n0 k0 s0 p0 (outV n0 k0 s0 p0 p2))]), .val (.int .i64 (frV s0 p0)), .val (.int .i64 (toV n0 k0 s0 p0 (outV n0 k0 s0 p0 p2))), .val (.int .i64 (frV s0 p0)), .val (.int .i64 (toV n0 k0 s0 p0 (outV n0 k0 s0 p0 p2)))] (fun W => OI n0 n1 k0 k1 s0 s1 p0 p1 p2 p3 w W ∧ W.heap[g2]? = some (box2 (outV n0 k0 s0 p0 p2) (outV n1 k1 s1 p1 p3))) (by kernel_rfl) ⟨hG, hA⟩ ?_ ?_
  · intro vs W hG b hb
    have e4 : b.eval (.tmp 4) = .pointer (some ⟨w.heap.size, 0, none⟩) := (congrArg (fun x => Act.eval x (.tmp 4)) hb).trans ((fill_out _ 0 _ (by kernel_rfl)).trans rfl)
    have e5 : b.eval (.tmp 5) = .pointer (some ⟨w.heap.size + 1, 0, none⟩) := (congrArg (fun x => Act.eval x (.tmp 5)) hb).trans ((fill_out _ 0 _ (by kernel_rfl)).trans rfl)
    have e6 : b.eval (.tmp 6) = .pointer (some ⟨w.heap.size + 1 + 1, 0, none⟩) := (congrArg (fun x => Act.eval x (.tmp 6)) hb).trans ((fill_out _ 0 _ (by kernel_rfl)).trans rfl)
    have e7 : b.eval (.tmp 7) = .pointer (some ⟨w.heap.size + 1 + 1 + 1, 0, none⟩) := (congrArg (fun x => Act.eval x (.tmp 7)) hb).trans ((fill_out _ 0 _ (by kernel_rfl)).trans rfl)
    have e12 : b.eval (.tmp 12) = .pointer (some ⟨g2, 0, none⟩) := (congrArg (fun x => Act.eval x (.tmp 12)) hb).trans ((fill_out _ 0 _ (by kernel_rfl)).trans rfl)
    have i30 : b.eval (.tmp 30) = vs 11 := (congrArg (fun x => Act.eval x (.tmp 30)) hb).trans ((fill_in _ 0 11 _ _ 30 (by kernel_rfl) rfl rfl (by simp)).trans (congrArg vs (Nat.zero_add _)))
    have i31 : b.eval (.tmp 31) = vs 0 := (congrArg (fun x => Act.eval x (.tmp 31)) hb).trans ((fill_in _ 0 0 _ _ 31 (by kernel_rfl) rfl rfl (by simp)).trans (congrArg vs (Nat.zero_add _)))
    have i32 : b.eval (.tmp 32) = vs 1 := (congrArg (fun x => Act.eval x (.tmp 32)) hb).trans ((fill_in _ 0 1 _ _ 32 (by kernel_rfl) rfl rfl (by simp)).trans (congrArg vs (Nat.zero_add _)))
    have i33 : b.eval (.tmp 33) = vs 2 := (congrArg (fun x => Act.eval x (.tmp 33)) hb).trans ((fill_in _ 0 2 _ _ 33 (by kernel_rfl) rfl rfl (by simp)).trans (congrArg vs (Nat.zero_add _)))
    have i34 : b.eval (.tmp 34) = vs 3 := (congrArg (fun x => Act.eval x (.tmp 34)) hb).trans ((fill_in _ 0 3 _ _ 34 (by kernel_rfl) rfl rfl (by simp)).trans (congrArg vs (Nat.zero_add _)))
    have i35 : b.eval (.tmp 35) = vs 4 := (congrArg (fun x => Act.eval x (.tmp 35)) hb).trans ((fill_in _ 0 4 _ _ 35 (by kernel_rfl) rfl rfl (by simp)).trans (congrArg vs (Nat.zero_add _)))
    have i36 : b.eval (.tmp 36) = vs 5 := (congrArg (fun x => Act.eval x (.tmp 36)) hb).trans ((fill_in _ 0 5 _ _ 36 (by kernel_rfl) rfl rfl (by simp)).trans (congrArg vs (Nat.zero_add _)))
    have i37 : b.eval (.tmp 37) = vs 6 := (congrArg (fun x => Act.eval x (.tmp 37)) hb).trans ((fill_in _ 0 6 _ _ 37 (by kernel_rfl) rfl rfl (by simp)).trans (congrArg vs (Nat.zero_add _)))
    have i38 : b.eval (.tmp 38) = vs 7 := (congrArg (fun x => Act.eval x (.tmp 38)) hb).trans ((fill_in _ 0 7 _ _ 38 (by kernel_rfl) rfl rfl (by simp)).trans (congrArg vs (Nat.zero_add _)))
    have i39 : b.eval (.tmp 39) = vs 8 := (congrArg (fun x => Act.eval x (.tmp 39)) hb).trans ((fill_in _ 0 8 _ _ 39 (by kernel_rfl) rfl rfl (by simp)).trans (congrArg vs (Nat.zero_add _)))
    have i40 : b.eval (.tmp 40) = vs 9 := (congrArg (fun x => Act.eval x (.tmp 40)) hb).trans ((fill_in _ 0 9 _ _ 40 (by kernel_rfl) rfl rfl (by simp)).trans (congrArg vs (Nat.zero_add _)))
    have i41 : b.eval (.tmp 41) = vs 10 := (congrArg (fun x => Act.eval x (.tmp 41)) hb).trans ((fill_in _ 0 10 _ _ 41 (by kernel_rfl) rfl rfl (by simp)).trans (congrArg vs (Nat.zero_add _)))
    have i42 : b.eval (.tmp 42) = vs 12 := (congrArg (fun x => Act.eval x (.tmp 42)) hb).trans ((fill_in _ 0 12 _ _ 42 (by kernel_rfl) rfl rfl (by simp)).trans (congrArg vs (Nat.zero_add _)))
    have i43 : b.eval (.tmp 43) = vs 13 := (congrArg (fun x => Act.eval x (.tmp 43)) hb).trans ((fill_in _ 0 13 _ _ 43 (by kernel_rfl) rfl rfl (by simp)).trans (congrArg vs (Nat.zero_add _)))
    clear hb
    refine And.intro ?_ (And.intro ?_ (And.intro ?_ (And.intro ?_ (And.intro ?_ (And.intro ?_ (And.intro ?_ (And.intro ?_ (And.intro ?_ (And.intro ?_ (And.intro ?_ (And.intro ?_ (And.intro ?_ (And.intro ?_ (And.intro ?_ (And.intro ?_ (trivial))))))))))))))))
    · intro hp K hK
      refine g_no rfl ?_
      exact st_index rfl (e4) (eval_const _) (by kernel_rfl) (hK _ _ rfl hG (Below.refl _ _))
    · intro hp K hK
      refine g_no rfl ?_
      have e31 : b.eval (.tmp 31) = .pointer (some ⟨w.heap.size, 0, none⟩) := i31.trans (hp 0 (by kernel_rfl))
      exact st_load rfl (e31) (ld1 ((blk_cell hG.1.b0 0).trans rfl)) (hK _ _ rfl hG (Below.refl _ _))
    · intro hp K hK
      refine g_no rfl ?_
      exact st_index rfl (e5) (eval_const _) (by kernel_rfl) (hK _ _ rfl hG (Below.refl _ _))
    · intro hp K hK
      refine g_no rfl ?_
      have e33 : b.eval (.tmp 33) = .pointer (some ⟨w.heap.size + 1, 0, none⟩) := i33.trans (hp 2 (by kernel_rfl))
      exact st_load rfl (e33) (ld1 ((blk_cell hG.1.b1 0).trans rfl)) (hK _ _ rfl hG (Below.refl _ _))
    · intro hp K hK
      refine g_no rfl ?_
      exact st_index rfl (e6) (eval_const _) (by kernel_rfl) (hK _ _ rfl hG (Below.refl _ _))
    · intro hp K hK
      refine g_no rfl ?_
      have e35 : b.eval (.tmp 35) = .pointer (some ⟨w.heap.size + 1 + 1, 0, none⟩) := i35.trans (hp 4 (by kernel_rfl))
      exact st_load rfl (e35) (ld1 ((blk_cell hG.1.b2 0).trans rfl)) (hK _ _ rfl hG (Below.refl _ _))
    · intro hp K hK
      refine g_no rfl ?_
      exact st_index rfl (e7) (eval_const _) (by kernel_rfl) (hK _ _ rfl hG (Below.refl _ _))
    · intro hp K hK
      refine g_no rfl ?_
      have e37 : b.eval (.tmp 37) = .pointer (some ⟨w.heap.size + 1 + 1 + 1, 0, none⟩) := i37.trans (hp 6 (by kernel_rfl))
      exact st_load rfl (e37) (ld1 ((blk_cell hG.1.b3 0).trans rfl)) (hK _ _ rfl hG (Below.refl _ _))
    · intro hp K hK
      refine g_no rfl ?_
      exact st_index rfl (e12) (eval_const _) (by kernel_rfl) (hK _ _ rfl hG (Below.refl _ _))
    · intro hp K hK
      refine g_no rfl ?_
      have e39 : b.eval (.tmp 39) = .pointer (some ⟨g2, 0, none⟩) := i39.trans (hp 8 (by kernel_rfl))
      exact st_load rfl (e39) (ld1 ((blk_cell hG.2 0).trans rfl)) (hK _ _ rfl hG (Below.refl _ _))
    · intro hp K hK
      refine g_no rfl ?_
      have e32 : b.eval (.tmp 32) = .int .i64 n0 := i32.trans (hp 1 (by kernel_rfl))
      have e34 : b.eval (.tmp 34) = .int .i64 k0 := i34.trans (hp 3 (by kernel_rfl))
      have e36 : b.eval (.tmp 36) = .int .i64 s0 := i36.trans (hp 5 (by kernel_rfl))
      have e38 : b.eval (.tmp 38) = .int .i64 p0 := i38.trans (hp 7 (by kernel_rfl))
      have e40 : b.eval (.tmp 40) = .int .i64 (outV n0 k0 s0 p0 p2) := i40.trans (hp 9 (by kernel_rfl))
      refine st_call rfl (by first | (simp only [List.map_toArray, List.map_cons, List.map_nil, eval_const, e32, e34, e36, e38, e40]; done) | (simp only [List.map_toArray, List.map_cons, List.map_nil, eval_const, e32, e34, e36, e38, e40]; rfl)) (by kernel_rfl) ?_
      refine (part_is n0 k0 s0 p0 (outV n0 k0 s0 p0 p2) _ ⟨by omega, by omega⟩ ⟨by omega, by omega⟩ ⟨by omega, by omega⟩ ⟨by omega, by omega⟩ (out_small ⟨h00, h01, h02, h03, h04, by omega⟩)).mono ?_
      rintro e w' ⟨rfl, rfl⟩
      exact ⟨_, rfl, hK _ _ rfl hG (Below.refl _ _)⟩
    · intro hp K hK
      refine g_no rfl ?_
      have e41 : b.eval (.tmp 41) = .tuple #[.int .i64 (frV s0 p0), .int .i64 (toV n0 k0 s0 p0 (outV n0 k0 s0 p0 p2))] := i41.trans (hp 10 (by kernel_rfl))
      exact st_move (.inl rfl) (e41) (hK _ _ rfl hG (Below.refl _ _))
    · intro hp K hK
      refine g_no rfl ?_
      have e30 : b.eval (.tmp 30) = .tuple #[.int .i64 (frV s0 p0), .int .i64 (toV n0 k0 s0 p0 (outV n0 k0 s0 p0 p2))] := i30.trans (hp 11 (by kernel_rfl))
      exact st_extract rfl (e30) (by kernel_rfl) (hK _ _ rfl hG (Below.refl _ _))
    · intro hp K hK
      refine g_no rfl ?_
      have e30 : b.eval (.tmp 30) = .tuple #[.int .i64 (frV s0 p0), .int .i64 (toV n0 k0 s0 p0 (outV n0 k0 s0 p0 p2))] := i30.trans (hp 11 (by kernel_rfl))
      exact st_extract rfl (e30) (by kernel_rfl) (hK _ _ rfl hG (Below.refl _ _))
    · intro hp K hK
      refine g_no rfl ?_
      have e42 : b.eval (.tmp 42) = .int .i64 (frV s0 p0) := i42.trans (hp 12 (by kernel_rfl))
      exact st_move (.inr rfl) (e42) (hK _ _ rfl hG (Below.refl _ _))
    · intro hp K hK
      refine g_no rfl ?_
      have e43 : b.eval (.tmp 43) = .int .i64 (toV n0 k0 s0 p0 (outV n0 k0 s0 p0 p2)) := i43.trans (hp 13 (by kernel_rfl))
      exact st_move (.inr rfl) (e43) (hK _ _ rfl hG (Below.refl _ _))
  intro vs W hG hp b hb
  have q14 : vs 14 = .int .i64 (frV s0 p0) := hp 14 (by decide)
  have q15 : vs 15 = .int .i64 (toV n0 k0 s0 p0 (outV n0 k0 s0 p0 p2)) := hp 15 (by decide)
  clear hp
  simp only [fill, Act.put, List.append_eq, List.cons_append, List.nil_append, List.take_succ_cons, List.take_zero, List.setIfInBounds_toArray, List.set_cons_succ, List.set_cons_zero, Nat.reduceAdd, Nat.zero_add, q14, q15] at hb
  subst hb
  refine wpList_nil ?_
  clear q14 q15
  clear hA
  refine HK5.out _ _ ?_
  clear HK5
  apply wp_seq_k
  intro K6 hK6
  have HK6 := Lib.hid hK6
  clear hK6
  refine wp_listed (R := fun W W' => Below W.heap.size W W') 16 [.val (.pointer (some ⟨w.heap.size, 1, none⟩)), .val (.int .i64 n1), .val (.pointer (some ⟨w.heap.size + 1, 1, none⟩)), .val (.int .i64 k1), .val (.pointer (some ⟨w.heap.size + 1 + 1, 1, none⟩)), .val (.int .i64 s1), .val (.pointer (some ⟨w.heap.size + 1 + 1 + 1, 1, none⟩)), .val (.int .i64 p1), .val (.pointer (some ⟨g2, 1, none⟩)), .val (.int .i64 (outV n1 k1 s1 p1 p3)), .val (.tuple #[.int .i64 (frV s1 p1), .int .i64 (toV n1 k1 s1 p1 (outV n1 k1 s1 p1 p3))]), .val (.tuple #[.int .i64 (frV s1 p1), .int .i64 (toV n1 k1 s1 p1 (outV n1 k1 s1 p1 p3))]), .val (.int .i64 (frV s1 p1)), .val (.int .i64 (toV n1 k1 s1 p1 (outV n1 k1 s1 p1 p3))), .val (.int .i64 (frV s1 p1)), .val (.int .i64 (toV n1 k1 s1 p1 (outV n1 k1 s1 p1 p3)))] (fun W => OI n0 n1 k0 k1 s0 s1 p0 p1 p2 p3 w W ∧ W.heap[g2]? = some (box2 (outV n0 k0 s0 p0 p2) (outV n1 k1 s1 p1 p3))) (by kernel_rfl) hG ?_ ?_
  · intro vs W hG b hb
    have e4 : b.eval (.tmp 4) = .pointer (some ⟨w.heap.size, 0, none⟩) := (congrArg (fun x => Act.eval x (.tmp 4)) hb).trans ((fill_out _ 0 _ (by kernel_rfl)).trans rfl)
    have e5 : b.eval (.tmp 5) = .pointer (some ⟨w.heap.size + 1, 0, none⟩) := (congrArg (fun x => Act.eval x (.tmp 5)) hb).trans ((fill_out _ 0 _ (by kernel_rfl)).trans rfl)
    have e6 : b.eval (.tmp 6) = .pointer (some ⟨w.heap.size + 1 + 1, 0, none⟩) := (congrArg (fun x => Act.eval x (.tmp 6)) hb).trans ((fill_out _ 0 _ (by kernel_rfl)).trans rfl)
    have e7 : b.eval (.tmp 7) = .pointer (some ⟨w.heap.size + 1 + 1 + 1, 0, none⟩) := (congrArg (fun x => Act.eval x (.tmp 7)) hb).trans ((fill_out _ 0 _ (by kernel_rfl)).trans rfl)
    have e12 : b.eval (.tmp 12) = .pointer (some ⟨g2, 0, none⟩) := (congrArg (fun x => Act.eval x (.tmp 12)) hb).trans ((fill_out _ 0 _ (by kernel_rfl)).trans rfl)
    have i44 : b.eval (.tmp 44) = vs 11 := (congrArg (fun x => Act.eval x (.tmp 44)) hb).trans ((fill_in _ 0 11 _ _ 44 (by kernel_rfl) rfl rfl (by simp)).trans (congrArg vs (Nat.zero_add _)))
    have i45 : b.eval (.tmp 45) = vs 0 := (congrArg (fun x => Act.eval x (.tmp 45)) hb).trans ((fill_in _ 0 0 _ _ 45 (by kernel_rfl) rfl rfl (by simp)).trans (congrArg vs (Nat.zero_add _)))
    have i46 : b.eval (.tmp 46) = vs 1 := (congrArg (fun x => Act.eval x (.tmp 46)) hb).trans ((fill_in _ 0 1 _ _ 46 (by kernel_rfl) rfl rfl (by simp)).trans (congrArg vs (Nat.zero_add _)))
    have i47 : b.eval (.tmp 47) = vs 2 := (congrArg (fun x => Act.eval x (.tmp 47)) hb).trans ((fill_in _ 0 2 _ _ 47 (by kernel_rfl) rfl rfl (by simp)).trans (congrArg vs (Nat.zero_add _)))
    have i48 : b.eval (.tmp 48) = vs 3 := (congrArg (fun x => Act.eval x (.tmp 48)) hb).trans ((fill_in _ 0 3 _ _ 48 (by kernel_rfl) rfl rfl (by simp)).trans (congrArg vs (Nat.zero_add _)))
    have i49 : b.eval (.tmp 49) = vs 4 := (congrArg (fun x => Act.eval x (.tmp 49)) hb).trans ((fill_in _ 0 4 _ _ 49 (by kernel_rfl) rfl rfl (by simp)).trans (congrArg vs (Nat.zero_add _)))
    have i50 : b.eval (.tmp 50) = vs 5 := (congrArg (fun x => Act.eval x (.tmp 50)) hb).trans ((fill_in _ 0 5 _ _ 50 (by kernel_rfl) rfl rfl (by simp)).trans (congrArg vs (Nat.zero_add _)))
    have i51 : b.eval (.tmp 51) = vs 6 := (congrArg (fun x => Act.eval x (.tmp 51)) hb).trans ((fill_in _ 0 6 _ _ 51 (by kernel_rfl) rfl rfl (by simp)).trans (congrArg vs (Nat.zero_add _)))
    have i52 : b.eval (.tmp 52) = vs 7 := (congrArg (fun x => Act.eval x (.tmp 52)) hb).trans ((fill_in _ 0 7 _ _ 52 (by kernel_rfl) rfl rfl (by simp)).trans (congrArg vs (Nat.zero_add _)))
    have i53 : b.eval (.tmp 53) = vs 8 := (congrArg (fun x => Act.eval x (.tmp 53)) hb).trans ((fill_in _ 0 8 _ _ 53 (by kernel_rfl) rfl rfl (by simp)).trans (congrArg vs (Nat.zero_add _)))
    have i54 : b.eval (.tmp 54) = vs 9 := (congrArg (fun x => Act.eval x (.tmp 54)) hb).trans ((fill_in _ 0 9 _ _ 54 (by kernel_rfl) rfl rfl (by simp)).trans (congrArg vs (Nat.zero_add _)))
    have i55 : b.eval (.tmp 55) = vs 10 := (congrArg (fun x => Act.eval x (.tmp 55)) hb).trans ((fill_in _ 0 10 _ _ 55 (by kernel_rfl) rfl rfl (by simp)).trans (congrArg vs (Nat.zero_add _)))
    have i56 : b.eval (.tmp 56) = vs 12 := (congrArg (fun x => Act.eval x (.tmp 56)) hb).trans ((fill_in _ 0 12 _ _ 56 (by kernel_rfl) rfl rfl (by simp)).trans (congrArg vs (Nat.zero_add _)))
    have i57 : b.eval (.tmp 57) = vs 13 := (congrArg (fun x => Act.eval x (.tmp 57)) hb).trans ((fill_in _ 0 13 _ _ 57 (by kernel_rfl) rfl rfl (by simp)).trans (congrArg vs (Nat.zero_add _)))
    clear hb
    refine And.intro ?_ (And.intro ?_ (And.intro ?_ (And.intro ?_ (And.intro ?_ (And.intro ?_ (And.intro ?_ (And.intro ?_ (And.intro ?_ (And.intro ?_ (And.intro ?_ (And.intro ?_ (And.intro ?_ (And.intro ?_ (And.intro ?_ (And.intro ?_ (trivial))))))))))))))))
    · intro hp K hK
      refine g_no rfl ?_
      exact st_index rfl (e4) (eval_const _) (by kernel_rfl) (hK _ _ rfl hG (Below.refl _ _))
    · intro hp K hK
      refine g_no rfl ?_
      have e45 : b.eval (.tmp 45) = .pointer (some ⟨w.heap.size, 1, none⟩) := i45.trans (hp 0 (by kernel_rfl))
      exact st_load rfl (e45) (ld1 ((blk_cell hG.1.b0 1).trans rfl)) (hK _ _ rfl hG (Below.refl _ _))
    · intro hp K hK
      refine g_no rfl ?_
      exact st_index rfl (e5) (eval_const _) (by kernel_rfl) (hK _ _ rfl hG (Below.refl _ _))
    · intro hp K hK
      refine g_no rfl ?_
      have e47 : b.eval (.tmp 47) = .pointer (some ⟨w.heap.size + 1, 1, none⟩) := i47.trans (hp 2 (by kernel_rfl))
      exact st_load rfl (e47) (ld1 ((blk_cell hG.1.b1 1).trans rfl)) (hK _ _ rfl hG (Below.refl _ _))
    · intro hp K hK
      refine g_no rfl ?_
      exact st_index rfl (e6) (eval_const _) (by kernel_rfl) (hK _ _ rfl hG (Below.refl _ _))
    · intro hp K hK
      refine g_no rfl ?_
      have e49 : b.eval (.tmp 49) = .pointer (some ⟨w.heap.size + 1 + 1, 1, none⟩) := i49.trans (hp 4 (by kernel_rfl))
      exact st_load rfl (e49) (ld1 ((blk_cell hG.1.b2 1).trans rfl)) (hK _ _ rfl hG (Below.refl _ _))
    · intro hp K hK
      refine g_no rfl ?_
      exact st_index rfl (e7) (eval_const _) (by kernel_rfl) (hK _ _ rfl hG (Below.refl _ _))
    · intro hp K hK
      refine g_no rfl ?_
      have e51 : b.eval (.tmp 51) = .pointer (some ⟨w.heap.size + 1 + 1 + 1, 1, none⟩) := i51.trans (hp 6 (by kernel_rfl))
      exact st_load rfl (e51) (ld1 ((blk_cell hG.1.b3 1).trans rfl)) (hK _ _ rfl hG (Below.refl _ _))
    · intro hp K hK
      refine g_no rfl ?_
      exact st_index rfl (e12) (eval_const _) (by kernel_rfl) (hK _ _ rfl hG (Below.refl _ _))
    · intro hp K hK
      refine g_no rfl ?_
      have e53 : b.eval (.tmp 53) = .pointer (some ⟨g2, 1, none⟩) := i53.trans (hp 8 (by kernel_rfl))
      exact st_load rfl (e53) (ld1 ((blk_cell hG.2 1).trans rfl)) (hK _ _ rfl hG (Below.refl _ _))
    · intro hp K hK
      refine g_no rfl ?_
      have e46 : b.eval (.tmp 46) = .int .i64 n1 := i46.trans (hp 1 (by kernel_rfl))
      have e48 : b.eval (.tmp 48) = .int .i64 k1 := i48.trans (hp 3 (by kernel_rfl))
      have e50 : b.eval (.tmp 50) = .int .i64 s1 := i50.trans (hp 5 (by kernel_rfl))
      have e52 : b.eval (.tmp 52) = .int .i64 p1 := i52.trans (hp 7 (by kernel_rfl))
      have e54 : b.eval (.tmp 54) = .int .i64 (outV n1 k1 s1 p1 p3) := i54.trans (hp 9 (by kernel_rfl))
      refine st_call rfl (by first | (simp only [List.map_toArray, List.map_cons, List.map_nil, eval_const, e46, e48, e50, e52, e54]; done) | (simp only [List.map_toArray, List.map_cons, List.map_nil, eval_const, e46, e48, e50, e52, e54]; rfl)) (by kernel_rfl) ?_
      refine (part_is n1 k1 s1 p1 (outV n1 k1 s1 p1 p3) _ ⟨by omega, by omega⟩ ⟨by omega, by omega⟩ ⟨by omega, by omega⟩ ⟨by omega, by omega⟩ (out_small ⟨h10, h11, h12, h13, h14, by omega⟩)).mono ?_
      rintro e w' ⟨rfl, rfl⟩
      exact ⟨_, rfl, hK _ _ rfl hG (Below.refl _ _)⟩
    · intro hp K hK
      refine g_no rfl ?_
      have e55 : b.eval (.tmp 55) = .tuple #[.int .i64 (frV s1 p1), .int .i64 (toV n1 k1 s1 p1 (outV n1 k1 s1 p1 p3))] := i55.trans (hp 10 (by kernel_rfl))
      exact st_move (.inl rfl) (e55) (hK _ _ rfl hG (Below.refl _ _))
    · intro hp K hK
      refine g_no rfl ?_
      have e44 : b.eval (.tmp 44) = .tuple #[.int .i64 (frV s1 p1), .int .i64 (toV n1 k1 s1 p1 (outV n1 k1 s1 p1 p3))] := i44.trans (hp 11 (by kernel_rfl))
      exact st_extract rfl (e44) (by kernel_rfl) (hK _ _ rfl hG (Below.refl _ _))
    · intro hp K hK
      refine g_no rfl ?_
      have e44 : b.eval (.tmp 44) = .tuple #[.int .i64 (frV s1 p1), .int .i64 (toV n1 k1 s1 p1 (outV n1 k1 s1 p1 p3))] := i44.trans (hp 11 (by kernel_rfl))
      exact st_extract rfl (e44) (by kernel_rfl) (hK _ _ rfl hG (Below.refl _ _))
    · intro hp K hK
      refine g_no rfl ?_
      have e56 : b.eval (.tmp 56) = .int .i64 (frV s1 p1) := i56.trans (hp 12 (by kernel_rfl))
      exact st_move (.inr rfl) (e56) (hK _ _ rfl hG (Below.refl _ _))
    · intro hp K hK
      refine g_no rfl ?_
      have e57 : b.eval (.tmp 57) = .int .i64 (toV n1 k1 s1 p1 (outV n1 k1 s1 p1 p3)) := i57.trans (hp 13 (by kernel_rfl))
      exact st_move (.inr rfl) (e57) (hK _ _ rfl hG (Below.refl _ _))
  intro vs W hG hp b hb
  have q14 : vs 14 = .int .i64 (frV s1 p1) := hp 14 (by decide)
  have q15 : vs 15 = .int .i64 (toV n1 k1 s1 p1 (outV n1 k1 s1 p1 p3)) := hp 15 (by decide)
  clear hp
  simp only [fill, Act.put, List.append_eq, List.cons_append, List.nil_append, List.take_succ_cons, List.take_zero, List.setIfInBounds_toArray, List.set_cons_succ, List.set_cons_zero, Nat.reduceAdd, Nat.zero_add, q14, q15] at hb
  subst hb
  refine wpList_nil ?_
  clear q14 q15
  refine HK6.out _ _ ?_
  clear HK6
  apply wp_seq_k
  intro K7 hK7
  have HK7 := Lib.hid hK7
  clear hK7
  apply wp_seq_k
  intro K8 hK8
  have HK8 := Lib.hid hK8
  clear hK8
  refine wp_listed (R := fun W W' => Below W.heap.size W W') 8 [.val (.int .i64 (frV s0 p0)), .val (.int .i64 (toV n0 k0 s0 p0 (outV n0 k0 s0 p0 p2))), .val (.bool (decide ((toV n0 k0 s0 p0 (outV n0 k0 s0 p0 p2)) ≤ (frV s0 p0)))), .val (.bool (decide ((toV n0 k0 s0 p0 (outV n0 k0 s0 p0 p2)) ≤ (frV s0 p0)))), .val ((bif ((decide ((toV n0 k0 s0 p0 (outV n0 k0 s0 p0 p2)) ≤ (frV s0 p0))) == false) then (.int .i64 (frV s1 p1)) else undef)), .val ((bif ((decide ((toV n0 k0 s0 p0 (outV n0 k0 s0 p0 p2)) ≤ (frV s0 p0))) == false) then (.int .i64 (toV n1 k1 s1 p1 (outV n1 k1 s1 p1 p3))) else undef)), .val ((bif ((decide ((toV n0 k0 s0 p0 (outV n0 k0 s0 p0 p2)) ≤ (frV s0 p0))) == false) then (.bool (decide ((toV n1 k1 s1 p1 (outV n1 k1 s1 p1 p3)) ≤ (frV s1 p1)))) else undef)), .val (.bool (noneB n0 n1 k0 k1 s0 s1 p0 p1 p2 p3))] (fun W => OI n0 n1 k0 k1 s0 s1 p0 p1 p2 p3 w W ∧ W.heap[g2]? = some (box2 (outV n0 k0 s0 p0 p2) (outV n1 k1 s1 p1 p3))) (by kernel_rfl) hG ?_ ?_
  · intro vs W hG b hb
    have e13 : b.eval (.tmp 13) = .int .i64 (frV s0 p0) := (congrArg (fun x => Act.eval x (.tmp 13)) hb).trans ((fill_out _ 0 _ (by kernel_rfl)).trans rfl)
    have e14 : b.eval (.tmp 14) = .int .i64 (toV n0 k0 s0 p0 (outV n0 k0 s0 p0 p2)) := (congrArg (fun x => Act.eval x (.tmp 14)) hb).trans ((fill_out _ 0 _ (by kernel_rfl)).trans rfl)
    have e15 : b.eval (.tmp 15) = .int .i64 (frV s1 p1) := (congrArg (fun x => Act.eval x (.tmp 15)) hb).trans ((fill_out _ 0 _ (by kernel_rfl)).trans rfl)
    have e16 : b.eval (.tmp 16) = .int .i64 (toV n1 k1 s1 p1 (outV n1 k1 s1 p1 p3)) := (congrArg (fun x => Act.eval x (.tmp 16)) hb).trans ((fill_out _ 0 _ (by kernel_rfl)).trans rfl)
    have i58 : b.eval (.tmp 58) = vs 0 := (congrArg (fun x => Act.eval x (.tmp 58)) hb).trans ((fill_in _ 0 0 _ _ 58 (by kernel_rfl) rfl rfl (by simp)).trans (congrArg vs (Nat.zero_add _)))
    have i59 : b.eval (.tmp 59) = vs 1 := (congrArg (fun x => Act.eval x (.tmp 59)) hb).trans ((fill_in _ 0 1 _ _ 59 (by kernel_rfl) rfl rfl (by simp)).trans (congrArg vs (Nat.zero_add _)))
    have i60 : b.eval (.tmp 60) = vs 2 := (congrArg (fun x => Act.eval x (.tmp 60)) hb).trans ((fill_in _ 0 2 _ _ 60 (by kernel_rfl) rfl rfl (by simp)).trans (congrArg vs (Nat.zero_add _)))
    have i61 : b.eval (.tmp 61) = vs 3 := (congrArg (fun x => Act.eval x (.tmp 61)) hb).trans ((fill_in _ 0 3 _ _ 61 (by kernel_rfl) rfl rfl (by simp)).trans (congrArg vs (Nat.zero_add _)))
    have i62 : b.eval (.tmp 62) = vs 4 := (congrArg (fun x => Act.eval x (.tmp 62)) hb).trans ((fill_in _ 0 4 _ _ 62 (by kernel_rfl) rfl rfl (by simp)).trans (congrArg vs (Nat.zero_add _)))
    have i63 : b.eval (.tmp 63) = vs 5 := (congrArg (fun x => Act.eval x (.tmp 63)) hb).trans ((fill_in _ 0 5 _ _ 63 (by kernel_rfl) rfl rfl (by simp)).trans (congrArg vs (Nat.zero_add _)))
    have i64 : b.eval (.tmp 64) = vs 6 := (congrArg (fun x => Act.eval x (.tmp 64)) hb).trans ((fill_in _ 0 6 _ _ 64 (by kernel_rfl) rfl rfl (by simp)).trans (congrArg vs (Nat.zero_add _)))
    clear hb
    refine And.intro ?_ (And.intro ?_ (And.intro ?_ (And.intro ?_ (And.intro ?_ (And.intro ?_ (And.intro ?_ (And.intro ?_ (trivial))))))))
    · intro hp K hK
      refine g_no rfl ?_
      exact st_move (.inl rfl) (e13) (hK _ _ rfl hG (Below.refl _ _))
    · intro hp K hK
      refine g_no rfl ?_
      exact st_move (.inl rfl) (e14) (hK _ _ rfl hG (Below.refl _ _))
    · intro hp K hK
      refine g_no rfl ?_
      have e58 : b.eval (.tmp 58) = .int .i64 (frV s0 p0) := i58.trans (hp 0 (by kernel_rfl))
      have e59 : b.eval (.tmp 59) = .int .i64 (toV n0 k0 s0 p0 (outV n0 k0 s0 p0 p2)) := i59.trans (hp 1 (by kernel_rfl))
      exact st_bin rfl (e58) (e59) b_geq (hK _ _ rfl hG (Below.refl _ _))
    · intro hp K hK
      refine g_no rfl ?_
      have e60 : b.eval (.tmp 60) = .bool (decide ((toV n0 k0 s0 p0 (outV n0 k0 s0 p0 p2)) ≤ (frV s0 p0))) := i60.trans (hp 2 (by kernel_rfl))
      exact st_move (.inl rfl) (e60) (hK _ _ rfl hG (Below.refl _ _))
    · intro hp K hK
      refine g_is (j := 3) (want := false) (c := decide ((toV n0 k0 s0 p0 (outV n0 k0 s0 p0 p2)) ≤ (frV s0 p0))) rfl (yielded_of (d := 61) rfl rfl (i61.trans (hp 3 (by kernel_rfl)))) (fun hb => ?_) (fun hb => hK _ _ (cond_no hb) hG (Below.refl _ _))
      exact st_move (.inl rfl) (e15) (hK _ _ (cond_yes hb).symm hG (Below.refl _ _))
    · intro hp K hK
      refine g_is (j := 3) (want := false) (c := decide ((toV n0 k0 s0 p0 (outV n0 k0 s0 p0 p2)) ≤ (frV s0 p0))) rfl (yielded_of (d := 61) rfl rfl (i61.trans (hp 3 (by kernel_rfl)))) (fun hb => ?_) (fun hb => hK _ _ (cond_no hb) hG (Below.refl _ _))
      exact st_move (.inl rfl) (e16) (hK _ _ (cond_yes hb).symm hG (Below.refl _ _))
    · intro hp K hK
      refine g_is (j := 3) (want := false) (c := decide ((toV n0 k0 s0 p0 (outV n0 k0 s0 p0 p2)) ≤ (frV s0 p0))) rfl (yielded_of (d := 61) rfl rfl (i61.trans (hp 3 (by kernel_rfl)))) (fun hb => ?_) (fun hb => hK _ _ (cond_no hb) hG (Below.refl _ _))
      have e62 : b.eval (.tmp 62) = (bif ((decide ((toV n0 k0 s0 p0 (outV n0 k0 s0 p0 p2)) ≤ (frV s0 p0))) == false) then (.int .i64 (frV s1 p1)) else undef) := i62.trans (hp 4 (by kernel_rfl))
      replace e62 := e62.trans (cond_yes hb)
      have e63 : b.eval (.tmp 63) = (bif ((decide ((toV n0 k0 s0 p0 (outV n0 k0 s0 p0 p2)) ≤ (frV s0 p0))) == false) then (.int .i64 (toV n1 k1 s1 p1 (outV n1 k1 s1 p1 p3))) else undef) := i63.trans (hp 5 (by kernel_rfl))
      replace e63 := e63.trans (cond_yes hb)
      exact st_bin rfl (e62) (e63) b_geq (hK _ _ (cond_yes hb).symm hG (Below.refl _ _))
    · intro hp K hK
      refine g_no rfl ?_
      have e61 : b.eval (.tmp 61) = .bool (decide ((toV n0 k0 s0 p0 (outV n0 k0 s0 p0 p2)) ≤ (frV s0 p0))) := i61.trans (hp 3 (by kernel_rfl))
      have e64 : b.eval (.tmp 64) = (bif ((decide ((toV n0 k0 s0 p0 (outV n0 k0 s0 p0 p2)) ≤ (frV s0 p0))) == false) then (.bool (decide ((toV n1 k1 s1 p1 (outV n1 k1 s1 p1 p3)) ≤ (frV s1 p1)))) else undef) := i64.trans (hp 6 (by kernel_rfl))
      exact st_pick rfl (e61) (by first | (rw [e64]; exact pick_or) | (rw [show b.eval ((Operand.tmp 64)) = _ from eval_const _]; exact pick_or)) (hK _ _ rfl hG (Below.refl _ _))
  intro vs W hG hp b hb
  have q7 : vs 7 = .bool (noneB n0 n1 k0 k1 s0 s1 p0 p1 p2 p3) := hp 7 (by decide)
  clear hp
  simp only [fill, Act.put, List.append_eq, List.cons_append, List.nil_append, List.take_succ_cons, List.take_zero, List.setIfInBounds_toArray, List.set_cons_succ, List.set_cons_zero, Nat.reduceAdd, Nat.zero_add, q7] at hb
  subst hb
  refine wpList_nil ?_
  clear q7
  refine HK8.out _ _ ?_
  clear HK8
  have c40 : _ = some (Value.int .i64 0) := (blk_cell hG.1.b4 0).trans rfl
  have f40 := blk_frozen hG.1.b4 0
  have c41 : _ = some (Value.int .i64 0) := (blk_cell hG.1.b4 1).trans rfl
  have f41 := blk_frozen hG.1.b4 1
  have c42 : _ = some (Value.int .i64 0) := (blk_cell hG.1.b4 2).trans rfl
  have f42 := blk_frozen hG.1.b4 2
  have c43 : _ = some (Value.int .i64 0) := (blk_cell hG.1.b4 3).trans rfl
  have f43 := blk_frozen hG.1.b4 3
  have hG := Lib.hid hG
  clear h00 h01 h02 h03 h04 h10 h11 h12 h13 h14 ha hb
  go_wp2
  · rename_i hc
    refine bodyPost_ret (results_ct rfl _ _ (w.heap.size + 1 + 1 + 1 + 1) 35 #[.int .i64 0, .int .i64 0, .int .i64 0, .int .i64 0] (0, 0) _ rfl (blk_put (blk_put (blk_put (blk_put hG.out.1.b4 0 _ rfl) 1 _ rfl) 2 _ rfl) 3 _ rfl) Try.underlying35 rfl (by kernel_rfl)) rfl ?_
    exact ⟨by simp only [insV, hc, cond_true]; rfl, (below_set (below_set (below_set (below_set hG.out.1.bel (by omega)) (by omega)) (by omega)) (by omega))⟩
  refine HK7.out _ _ ?_
  clear HK7
  go_wp2
  have hc : noneB n0 n1 k0 k1 s0 s1 p0 p1 p2 p3 = false := by assumption
  refine bodyPost_ret (results_ct rfl _ _ (w.heap.size + 1 + 1 + 1 + 1) 35 #[.int .i64 (frV s0 p0), .int .i64 (toV n0 k0 s0 p0 (outV n0 k0 s0 p0 p2)), .int .i64 (frV s1 p1), .int .i64 (toV n1 k1 s1 p1 (outV n1 k1 s1 p1 p3))] (0, 0) _ rfl (blk_put (blk_put (blk_put (blk_put hG.out.1.b4 0 _ rfl) 1 _ rfl) 2 _ rfl) 3 _ rfl) Try.underlying35 rfl (by kernel_rfl)) rfl ?_
  exact ⟨by simp only [insV, hc, cond_false]; rfl, (below_set (below_set (below_set (below_set hG.out.1.bel (by omega)) (by omega)) (by omega)) (by omega))⟩
set_option maxHeartbeats 4000000 in
theorem Inside_bad (n0 n1 k0 k1 s0 s1 p0 p1 p2 p3 : Int) (w : World) (h : goodV n0 n1 k0 k1 s0 s1 p0 p1 p2 p3 = false) : Calls Try.prog 24 #[.agg #[.int .i64 n0, .int .i64 n1], .agg #[.int .i64 k0, .int .i64 k1], .agg #[.int .i64 s0, .int .i64 s1], .agg #[.int .i64 p0, .int .i64 p1, .int .i64 p2, .int .i64 p3]] w (fun e w' => e = .returned (.tuple #[.agg #[.int .i64 0, .int .i64 0, .int .i64 0, .int .i64 0], .bool false]) ∧ Below w.heap.size w w') := by
  have H := Lib.hid h
  clear h
  have J := Lib.hid (OI.start n0 n1 k0 k1 s0 s1 p0 p1 p2 p3 w)
  go_enter Try.func24, Try.ntmps24
  apply wp_seq_k
  intro K1 hK1
  have HK1 := Lib.hid hK1
  clear hK1
  go_wp2
  refine HK1.out _ _ ?_
  clear HK1
  generalize ((((w.alloc (box2 n0 n1)).alloc (box2 k0 k1)).alloc (box2 s0 s1)).alloc (box4 p0 p1 p2 p3)).alloc (box4 0 0 0 0) = u0 at *
  replace J := J.out
  apply wp_seq_k
  intro K2 hK2
  have HK2 := Lib.hid hK2
  clear hK2
  refine wp_listed (R := fun W W' => Below W.heap.size W W') 9 [.val (.agg #[.int .i64 n0, .int .i64 n1]), .val (.agg #[.int .i64 k0, .int .i64 k1]), .val (.agg #[.int .i64 s0, .int .i64 s1]), .val (.agg #[.int .i64 p0, .int .i64 p1, .int .i64 p2, .int .i64 p3]), ⟨fun v _ => ∃ x0 y0 x1 y1 x2 y2 x3 y3 x4 y4 : Nat, v = .tuple #[.agg #[.complex .f64 x0 y0, .complex .f64 x1 y1, .complex .f64 x2 y2, .complex .f64 x3 y3, .complex .f64 x4 y4], .bool false], fun _ _ _ h _ => h⟩, ⟨fun v _ => ∃ x0 y0 x1 y1 x2 y2 x3 y3 x4 y4 : Nat, v = .tuple #[.agg #[.complex .f64 x0 y0, .complex .f64 x1 y1, .complex .f64 x2 y2, .complex .f64 x3 y3, .complex .f64 x4 y4], .bool false], fun _ _ _ h _ => h⟩, ⟨fun v _ => ∃ x0 y0 x1 y1 x2 y2 x3 y3 x4 y4 : Nat, v = .agg #[.complex .f64 x0 y0, .complex .f64 x1 y1, .complex .f64 x2 y2, .complex .f64 x3 y3, .complex .f64 x4 y4], fun _ _ _ h _ => h⟩, .val (.bool false), newSpec (z5) (w.heap.size + 5)] (fun W => OI n0 n1 k0 k1 s0 s1 p0 p1 p2 p3 w W) (by kernel_rfl) J ?_ ?_
  · intro vs W hG b hb
    have e4 : b.eval (.tmp 4) = .pointer (some ⟨w.heap.size, 0, none⟩) := (congrArg (fun x => Act.eval x (.tmp 4)) hb).trans ((fill_out _ 0 _ (by kernel_rfl)).trans rfl)
    have e5 : b.eval (.tmp 5) = .pointer (some ⟨w.heap.size + 1, 0, none⟩) := (congrArg (fun x => Act.eval x (.tmp 5)) hb).trans ((fill_out _ 0 _ (by kernel_rfl)).trans rfl)
    have e6 : b.eval (.tmp 6) = .pointer (some ⟨w.heap.size + 1 + 1, 0, none⟩) := (congrArg (fun x => Act.eval x (.tmp 6)) hb).trans ((fill_out _ 0 _ (by kernel_rfl)).trans rfl)
    have e7 : b.eval (.tmp 7) = .pointer (some ⟨w.heap.size + 1 + 1 + 1, 0, none⟩) := (congrArg (fun x => Act.eval x (.tmp 7)) hb).trans ((fill_out _ 0 _ (by kernel_rfl)).trans rfl)
    have i17 : b.eval (.tmp 17) = vs 5 := (congrArg (fun x => Act.eval x (.tmp 17)) hb).trans ((fill_in _ 0 5 _ _ 17 (by kernel_rfl) rfl rfl (by simp)).trans (congrArg vs (Nat.zero_add _)))
    have i18 : b.eval (.tmp 18) = vs 0 := (congrArg (fun x => Act.eval x (.tmp 18)) hb).trans ((fill_in _ 0 0 _ _ 18 (by kernel_rfl) rfl rfl (by simp)).trans (congrArg vs (Nat.zero_add _)))
    have i19 : b.eval (.tmp 19) = vs 1 := (congrArg (fun x => Act.eval x (.tmp 19)) hb).trans ((fill_in _ 0 1 _ _ 19 (by kernel_rfl) rfl rfl (by simp)).trans (congrArg vs (Nat.zero_add _)))
    have i20 : b.eval (.tmp 20) = vs 2 := (congrArg (fun x => Act.eval x (.tmp 20)) hb).trans ((fill_in _ 0 2 _ _ 20 (by kernel_rfl) rfl rfl (by simp)).trans (congrArg vs (Nat.zero_add _)))
    have i21 : b.eval (.tmp 21) = vs 3 := (congrArg (fun x => Act.eval x (.tmp 21)) hb).trans ((fill_in _ 0 3 _ _ 21 (by kernel_rfl) rfl rfl (by simp)).trans (congrArg vs (Nat.zero_add _)))
    have i22 : b.eval (.tmp 22) = vs 4 := (congrArg (fun x => Act.eval x (.tmp 22)) hb).trans ((fill_in _ 0 4 _ _ 22 (by kernel_rfl) rfl rfl (by simp)).trans (congrArg vs (Nat.zero_add _)))
    clear hb
    refine And.intro ?_ (And.intro ?_ (And.intro ?_ (And.intro ?_ (And.intro ?_ (And.intro ?_ (And.intro ?_ (And.intro ?_ (And.intro ?_ (trivial)))))))))
    · intro hp K hK
      refine g_no rfl ?_
      exact st_load rfl (e4) (ld2 hG.b0) (hK _ _ rfl hG (Below.refl _ _))
    · intro hp K hK
      refine g_no rfl ?_
      exact st_load rfl (e5) (ld2 hG.b1) (hK _ _ rfl hG (Below.refl _ _))
    · intro hp K hK
      refine g_no rfl ?_
      exact st_load rfl (e6) (ld2 hG.b2) (hK _ _ rfl hG (Below.refl _ _))
    · intro hp K hK
      refine g_no rfl ?_
      exact st_load rfl (e7) (ld4 hG.b3) (hK _ _ rfl hG (Below.refl _ _))
    · intro hp K hK
      refine g_no rfl ?_
      have e18 : b.eval (.tmp 18) = .agg #[.int .i64 n0, .int .i64 n1] := i18.trans (hp 0 (by kernel_rfl))
      have e19 : b.eval (.tmp 19) = .agg #[.int .i64 k0, .int .i64 k1] := i19.trans (hp 1 (by kernel_rfl))
      have e20 : b.eval (.tmp 20) = .agg #[.int .i64 s0, .int .i64 s1] := i20.trans (hp 2 (by kernel_rfl))
      have e21 : b.eval (.tmp 21) = .agg #[.int .i64 p0, .int .i64 p1, .int .i64 p2, .int .i64 p3] := i21.trans (hp 3 (by kernel_rfl))
      refine st_call rfl (by first | (simp only [List.map_toArray, List.map_cons, List.map_nil, eval_const, e18, e19, e20, e21]; done) | (simp only [List.map_toArray, List.map_cons, List.map_nil, eval_const, e18, e19, e20, e21]; rfl)) (by kernel_rfl) ?_
      refine (of_bad n0 n1 k0 k1 s0 s1 p0 p1 p2 p3 _ H.out).mono ?_
      rintro e w' ⟨x0, y0, x1, y1, x2, y2, x3, y3, x4, y4, rfl, hb'⟩
      exact ⟨_, rfl, hK _ _ ⟨x0, y0, x1, y1, x2, y2, x3, y3, x4, y4, rfl⟩ (hG.step hb') hb'⟩
    · intro hp K hK
      refine g_no rfl ?_
      have q4 : ∃ x0 y0 x1 y1 x2 y2 x3 y3 x4 y4 : Nat, (vs 4) = .tuple #[.agg #[.complex .f64 x0 y0, .complex .f64 x1 y1, .complex .f64 x2 y2, .complex .f64 x3 y3, .complex .f64 x4 y4], .bool false] := hp 4 (by kernel_rfl)
      obtain ⟨x0, y0, x1, y1, x2, y2, x3, y3, x4, y4, hv⟩ := q4
      have e22 := i22.trans hv
      exact st_move (.inl rfl) (e22) (hK _ _ ⟨x0, y0, x1, y1, x2, y2, x3, y3, x4, y4, rfl⟩ hG (Below.refl _ _))
    · intro hp K hK
      refine g_no rfl ?_
      have q5 : ∃ x0 y0 x1 y1 x2 y2 x3 y3 x4 y4 : Nat, (vs 5) = .tuple #[.agg #[.complex .f64 x0 y0, .complex .f64 x1 y1, .complex .f64 x2 y2, .complex .f64 x3 y3, .complex .f64 x4 y4], .bool false] := hp 5 (by kernel_rfl)
      obtain ⟨x0, y0, x1, y1, x2, y2, x3, y3, x4, y4, hv⟩ := q5
      have e17 := i17.trans hv
      exact st_extract rfl (e17) (by kernel_rfl) (hK _ _ ⟨x0, y0, x1, y1, x2, y2, x3, y3, x4, y4, rfl⟩ hG (Below.refl _ _))
    · intro hp K hK
      refine g_no rfl ?_
      have q5 : ∃ x0 y0 x1 y1 x2 y2 x3 y3 x4 y4 : Nat, (vs 5) = .tuple #[.agg #[.complex .f64 x0 y0, .complex .f64 x1 y1, .complex .f64 x2 y2, .complex .f64 x3 y3, .complex .f64 x4 y4], .bool false] := hp 5 (by kernel_rfl)
      obtain ⟨x0, y0, x1, y1, x2, y2, x3, y3, x4, y4, hv⟩ := q5
      have e17 := i17.trans hv
      exact st_extract rfl (e17) (by kernel_rfl) (hK _ _ rfl hG (Below.refl _ _))
    · intro hp K hK
      refine g_no rfl ?_
      exact st_alloc rfl (new5 _) (hK _ _ ⟨_, rfl, blk_new _ _, hG.size⟩ (hG.alloc _) ((Below.refl _ _).alloc (Nat.le_refl _) _))
  intro vs W hG hp b hb
  have q0 : vs 0 = .agg #[.int .i64 n0, .int .i64 n1] := hp 0 (by decide)
  have q1 : vs 1 = .agg #[.int .i64 k0, .int .i64 k1] := hp 1 (by decide)
  have q2 : vs 2 = .agg #[.int .i64 s0, .int .i64 s1] := hp 2 (by decide)
  have q3 : vs 3 = .agg #[.int .i64 p0, .int .i64 p1, .int .i64 p2, .int .i64 p3] := hp 3 (by decide)
  have q4 : ∃ x0 y0 x1 y1 x2 y2 x3 y3 x4 y4 : Nat, (vs 4) = .tuple #[.agg #[.complex .f64 x0 y0, .complex .f64 x1 y1, .complex .f64 x2 y2, .complex .f64 x3 y3, .complex .f64 x4 y4], .bool false] := hp 4 (by decide)
  have q5 : ∃ x0 y0 x1 y1 x2 y2 x3 y3 x4 y4 : Nat, (vs 5) = .tuple #[.agg #[.complex .f64 x0 y0, .complex .f64 x1 y1, .complex .f64 x2 y2, .complex .f64 x3 y3, .complex .f64 x4 y4], .bool false] := hp 5 (by decide)
  have q6 : ∃ x0 y0 x1 y1 x2 y2 x3 y3 x4 y4 : Nat, (vs 6) = .agg #[.complex .f64 x0 y0, .complex .f64 x1 y1, .complex .f64 x2 y2, .complex .f64 x3 y3, .complex .f64 x4 y4] := hp 6 (by decide)
  have q7 : vs 7 = .bool false := hp 7 (by decide)
  have q8 : ∃ g, (vs 8) = .pointer (some ⟨g, 0, none⟩) ∧ W.heap[g]? = some (z5) ∧ w.heap.size + 5 ≤ g := hp 8 (by decide)
  clear hp
  simp only [fill, Act.put, List.append_eq, List.cons_append, List.nil_append, List.take_succ_cons, List.take_zero, List.setIfInBounds_toArray, List.set_cons_succ, List.set_cons_zero, Nat.reduceAdd, Nat.zero_add, q0, q1, q2, q3, q7] at hb
  subst hb
  simp only [List.append_eq, List.cons_append, List.nil_append, List.drop_succ_cons, List.drop_zero]
  clear q0 q1 q2 q3 q7
  obtain ⟨g, hv, A, hg⟩ := q8
  rw [hv]
  clear hv J
  clear q4 q5
  obtain ⟨x0, y0, x1, y1, x2, y2, x3, y3, x4, y4, hv⟩ := q6
  rw [hv]
  clear hv
  have z0 := zc0 A
  have y'0 := zf0 A
  have z1 := zc1 A
  have y'1 := zf1 A
  have z2 := zc2 A
  have y'2 := zf2 A
  have z3 := zc3 A
  have y'3 := zf3 A
  have z4 := zc4 A
  have y'4 := zf4 A
  go_wp2
  clear z0 y'0 z1 y'1 z2 y'2 z3 y'3 z4 y'4
  have hJ := (((((hG.set hg 0 (.complex .f64 x0 y0)).set hg 1 (.complex .f64 x1 y1)).set hg 2 (.complex .f64 x2 y2)).set hg 3 (.complex .f64 x3 y3)).set hg 4 (.complex .f64 x4 y4))
  have hA : (((((W.setCell ⟨g, 0, none⟩ (.complex .f64 x0 y0)).setCell ⟨g, 1, none⟩ (.complex .f64 x1 y1)).setCell ⟨g, 2, none⟩ (.complex .f64 x2 y2)).setCell ⟨g, 3, none⟩ (.complex .f64 x3 y3)).setCell ⟨g, 4, none⟩ (.complex .f64 x4 y4)).heap[g]? = some (.cells #[(.complex .f64 x0 y0), (.complex .f64 x1 y1), (.complex .f64 x2 y2), (.complex .f64 x3 y3), (.complex .f64 x4 y4)] 53 (0, 0)) := z5_put A _ _ _ _ _ _ _ _ _ _
  generalize ((((W.setCell ⟨g, 0, none⟩ (.complex .f64 x0 y0)).setCell ⟨g, 1, none⟩ (.complex .f64 x1 y1)).setCell ⟨g, 2, none⟩ (.complex .f64 x2 y2)).setCell ⟨g, 3, none⟩ (.complex .f64 x3 y3)).setCell ⟨g, 4, none⟩ (.complex .f64 x4 y4) = V at *
  clear hG A
  refine HK2.out _ _ ?_
  clear HK2
  have c40 : _ = some (Value.int .i64 0) := (blk_cell hJ.b4 0).trans rfl
  have f40 := blk_frozen hJ.b4 0
  have c41 : _ = some (Value.int .i64 0) := (blk_cell hJ.b4 1).trans rfl
  have f41 := blk_frozen hJ.b4 1
  have c42 : _ = some (Value.int .i64 0) := (blk_cell hJ.b4 2).trans rfl
  have f42 := blk_frozen hJ.b4 2
  have c43 : _ = some (Value.int .i64 0) := (blk_cell hJ.b4 3).trans rfl
  have f43 := blk_frozen hJ.b4 3
  have hJ := Lib.hid hJ
  have hA := Lib.hid hA
  go_wp2
  refine bodyPost_ret (results_ct rfl _ _ (w.heap.size + 1 + 1 + 1 + 1) 35 #[.int .i64 0, .int .i64 0, .int .i64 0, .int .i64 0] (0, 0) _ rfl (blk_put (blk_put (blk_put (blk_put hJ.out.b4 0 _ rfl) 1 _ rfl) 2 _ rfl) 3 _ rfl) Try.underlying35 rfl (by kernel_rfl)) rfl ?_
  exact ⟨rfl, (below_set (below_set (below_set (below_set hJ.out.bel (by omega)) (by omega)) (by omega)) (by omega))⟩
end Go.Proofs.Ytfcimgdogkpbcaa.W
