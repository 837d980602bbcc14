/- Window: the reference's Out, counted. -/
import Derived.Test.YtfcimgdogkpbcaaW6
namespace Go.Proofs.Ytfcimgdogkpbcaa.W
open Go.RowKit T1 F Dr
set_option linter.unusedVariables false
set_option linter.unusedSimpArgs false
set_option maxRecDepth 100000

structure RO (n0 n1 k0 k1 s0 s1 p0 p1 p2 p3 o0 o1 : Int) (w W : World) : Prop where
  b0 : W.heap[w.heap.size]? = some (box2 n0 n1)
  b1 : W.heap[w.heap.size + 1]? = some (box2 k0 k1)
  b2 : W.heap[w.heap.size + 1 + 1]? = some (box2 s0 s1)
  b3 : W.heap[w.heap.size + 1 + 1 + 1]? = some (box4 p0 p1 p2 p3)
  b4 : W.heap[w.heap.size + 1 + 1 + 1 + 1]? = some (box2 0 0)
  b5 : W.heap[w.heap.size + 1 + 1 + 1 + 1 + 1]? = some (box2 o0 o1)
  bel : Below w.heap.size w W
theorem RO.step {n0 n1 k0 k1 s0 s1 p0 p1 p2 p3 o0 o1 : Int} {w W : World} {W' : World} (J : RO n0 n1 k0 k1 s0 s1 p0 p1 p2 p3 o0 o1 w W) (hb : Below W.heap.size W W') : RO n0 n1 k0 k1 s0 s1 p0 p1 p2 p3 o0 o1 w W' := ⟨blk_below J.b0 hb, blk_below J.b1 hb, blk_below J.b2 hb, blk_below J.b3 hb, blk_below J.b4 hb, blk_below J.b5 hb, below_step J.bel hb⟩
theorem RO.drew {n0 n1 k0 k1 s0 s1 p0 p1 p2 p3 o0 o1 : Int} {w W : World} (J : RO n0 n1 k0 k1 s0 s1 p0 p1 p2 p3 o0 o1 w W) : RO n0 n1 k0 k1 s0 s1 p0 p1 p2 p3 o0 o1 w W.drew := ⟨J.b0, J.b1, J.b2, J.b3, J.b4, J.b5, J.bel.drew⟩
theorem RO.alloc {n0 n1 k0 k1 s0 s1 p0 p1 p2 p3 o0 o1 : Int} {w W : World} (J : RO n0 n1 k0 k1 s0 s1 p0 p1 p2 p3 o0 o1 w W) (o : Obj) : RO n0 n1 k0 k1 s0 s1 p0 p1 p2 p3 o0 o1 w (W.alloc o) := J.step ((Below.refl _ _).alloc (Nat.le_refl _) o)
theorem RO.size {n0 n1 k0 k1 s0 s1 p0 p1 p2 p3 o0 o1 : Int} {w W : World} (J : RO n0 n1 k0 k1 s0 s1 p0 p1 p2 p3 o0 o1 w W) : w.heap.size + 6 ≤ W.heap.size := by
  have := (Array.getElem?_eq_some_iff.1 J.b5).1
  omega
theorem RO.start (n0 n1 k0 k1 s0 s1 p0 p1 p2 p3 o0 o1 : Int) (w : World) : RO n0 n1 k0 k1 s0 s1 p0 p1 p2 p3 o0 o1 w ((((((w.alloc (box2 n0 n1)).alloc (box2 k0 k1)).alloc (box2 s0 s1)).alloc (box4 p0 p1 p2 p3)).alloc (box2 0 0)).alloc (box2 o0 o1)) := by
  have e1 : ((w.alloc (box2 n0 n1))).heap.size = w.heap.size + 1 := by simp
  have e2 : (((w.alloc (box2 n0 n1)).alloc (box2 k0 k1))).heap.size = w.heap.size + 1 + 1 := by simp
  have e3 : ((((w.alloc (box2 n0 n1)).alloc (box2 k0 k1)).alloc (box2 s0 s1))).heap.size = w.heap.size + 1 + 1 + 1 := by simp
  have e4 : (((((w.alloc (box2 n0 n1)).alloc (box2 k0 k1)).alloc (box2 s0 s1)).alloc (box4 p0 p1 p2 p3))).heap.size = w.heap.size + 1 + 1 + 1 + 1 := by simp
  have e5 : ((((((w.alloc (box2 n0 n1)).alloc (box2 k0 k1)).alloc (box2 s0 s1)).alloc (box4 p0 p1 p2 p3)).alloc (box2 0 0))).heap.size = w.heap.size + 1 + 1 + 1 + 1 + 1 := by simp
  have k0' := blk_new w (box2 n0 n1)
  have k1' := blk_new (w.alloc (box2 n0 n1)) (box2 k0 k1)
  rw [e1] at k1'
  have k2' := blk_new ((w.alloc (box2 n0 n1)).alloc (box2 k0 k1)) (box2 s0 s1)
  rw [e2] at k2'
  have k3' := blk_new (((w.alloc (box2 n0 n1)).alloc (box2 k0 k1)).alloc (box2 s0 s1)) (box4 p0 p1 p2 p3)
  rw [e3] at k3'
  have k4' := blk_new ((((w.alloc (box2 n0 n1)).alloc (box2 k0 k1)).alloc (box2 s0 s1)).alloc (box4 p0 p1 p2 p3)) (box2 0 0)
  rw [e4] at k4'
  have k5' := blk_new (((((w.alloc (box2 n0 n1)).alloc (box2 k0 k1)).alloc (box2 s0 s1)).alloc (box4 p0 p1 p2 p3)).alloc (box2 0 0)) (box2 o0 o1)
  rw [e5] at k5'
  exact ⟨blk_alloc (blk_alloc (blk_alloc (blk_alloc (blk_alloc (k0') _) _) _) _) _, blk_alloc (blk_alloc (blk_alloc (blk_alloc (k1') _) _) _) _, blk_alloc (blk_alloc (blk_alloc (k2') _) _) _, blk_alloc (blk_alloc (k3') _) _, blk_alloc (k4') _, k5', below_alloc (below_alloc (below_alloc (below_alloc (below_alloc (below_alloc (Below.refl _ _) _) _) _) _) _) _⟩
theorem RO.set {n0 n1 k0 k1 s0 s1 p0 p1 p2 p3 o0 o1 : Int} {w W : World} {g : Nat} (J : RO n0 n1 k0 k1 s0 s1 p0 p1 p2 p3 o0 o1 w W) (hg : w.heap.size + 6 ≤ g) (i : Nat) (v : Value) : RO n0 n1 k0 k1 s0 s1 p0 p1 p2 p3 o0 o1 w (W.setCell ⟨g, i, none⟩ v) :=
  ⟨(Below.heap_setCell _ _ _ _ (by show _ ≠ g; omega)).trans J.b0, (Below.heap_setCell _ _ _ _ (by show _ ≠ g; omega)).trans J.b1, (Below.heap_setCell _ _ _ _ (by show _ ≠ g; omega)).trans J.b2, (Below.heap_setCell _ _ _ _ (by show _ ≠ g; omega)).trans J.b3, (Below.heap_setCell _ _ _ _ (by show _ ≠ g; omega)).trans J.b4, (Below.heap_setCell _ _ _ _ (by show _ ≠ g; omega)).trans J.b5, below_set J.bel (by omega)⟩
theorem RO.put0 {n0 n1 k0 k1 s0 s1 p0 p1 p2 p3 o0 o1 : Int} {w W : World} (J : RO n0 n1 k0 k1 s0 s1 p0 p1 p2 p3 o0 o1 w W) (x : Int) : RO n0 n1 k0 k1 s0 s1 p0 p1 p2 p3 x o1 w (W.setCell ⟨w.heap.size + 1 + 1 + 1 + 1 + 1, 0, none⟩ (.int .i64 x)) :=
  ⟨(Below.heap_setCell _ _ _ _ (by show _ ≠ w.heap.size + 1 + 1 + 1 + 1 + 1; omega)).trans J.b0, (Below.heap_setCell _ _ _ _ (by show _ ≠ w.heap.size + 1 + 1 + 1 + 1 + 1; omega)).trans J.b1, (Below.heap_setCell _ _ _ _ (by show _ ≠ w.heap.size + 1 + 1 + 1 + 1 + 1; omega)).trans J.b2, (Below.heap_setCell _ _ _ _ (by show _ ≠ w.heap.size + 1 + 1 + 1 + 1 + 1; omega)).trans J.b3, (Below.heap_setCell _ _ _ _ (by show _ ≠ w.heap.size + 1 + 1 + 1 + 1 + 1; omega)).trans J.b4, blk_put J.b5 0 _ rfl, below_set J.bel (by omega)⟩
theorem RO.put1 {n0 n1 k0 k1 s0 s1 p0 p1 p2 p3 o0 o1 : Int} {w W : World} (J : RO n0 n1 k0 k1 s0 s1 p0 p1 p2 p3 o0 o1 w W) (x : Int) : RO n0 n1 k0 k1 s0 s1 p0 p1 p2 p3 o0 x w (W.setCell ⟨w.heap.size + 1 + 1 + 1 + 1 + 1, 1, none⟩ (.int .i64 x)) :=
  ⟨(Below.heap_setCell _ _ _ _ (by show _ ≠ w.heap.size + 1 + 1 + 1 + 1 + 1; omega)).trans J.b0, (Below.heap_setCell _ _ _ _ (by show _ ≠ w.heap.size + 1 + 1 + 1 + 1 + 1; omega)).trans J.b1, (Below.heap_setCell _ _ _ _ (by show _ ≠ w.heap.size + 1 + 1 + 1 + 1 + 1; omega)).trans J.b2, (Below.heap_setCell _ _ _ _ (by show _ ≠ w.heap.size + 1 + 1 + 1 + 1 + 1; omega)).trans J.b3, (Below.heap_setCell _ _ _ _ (by show _ ≠ w.heap.size + 1 + 1 + 1 + 1 + 1; omega)).trans J.b4, blk_put J.b5 1 _ rfl, below_set J.bel (by omega)⟩
theorem step_le {m a k s : Int} (h0 : 0 ≤ m) (hs : 1 ≤ s) (h : m * s + k ≤ a) : m ≤ (a - k) / s := by
  rw [Int.le_ediv_iff_mul_le (by omega)]
  omega
theorem stop_eq {m a k s : Int} (hs : 1 ≤ s) (hm : m ≤ (a - k) / s + 1) (h : ¬ m * s + k ≤ a) : m = (a - k) / s + 1 := by
  have : ¬ m ≤ (a - k) / s := by
    rw [Int.le_ediv_iff_mul_le (by omega)]
    omega
  omega
theorem prod_small {m s a k : Int} (h0 : 0 ≤ m) (hs : 1 ≤ s) (h8 : s ≤ 8) (ha : a - k ≤ 1000) (hk : k ≤ a) (hm : m ≤ (a - k) / s + 1) : 0 ≤ m * s ∧ m * s ≤ 100000 := by
  have h1 : (a - k) / s ≤ a - k := Int.ediv_le_self _ (by omega)
  have h2 : m ≤ 1001 := by omega
  refine ⟨Int.mul_nonneg h0 (by omega), ?_⟩
  have := Int.mul_le_mul h2 h8 (by omega) (by omega)
  omega
set_option maxHeartbeats 8000000 in
theorem refOut (n0 n1 k0 k1 s0 s1 p0 p1 p2 p3 : Int) (w : World) (h : goodV n0 n1 k0 k1 s0 s1 p0 p1 p2 p3 = true) : Calls Try.prog 23 #[.agg #[.int .i64 n0, .int .i64 n1], .agg #[.int .i64 k0, .int .i64 k1], .agg #[.int .i64 s0, .int .i64 s1], .agg #[.int .i64 p0, .int .i64 p1, .int .i64 p2, .int .i64 p3]] w (fun e w' => e = .returned (.agg #[.int .i64 (((n0 + p0 + p2) - k0) / s0 + 1), .int .i64 (((n1 + p1 + p3) - k1) / s1 + 1)]) ∧ Below w.heap.size w w') := by
  have H := Lib.hid (goodV_iff.1 h)
  clear h
  have J := Lib.hid (RO.start n0 n1 k0 k1 s0 s1 p0 p1 p2 p3 0 0 w)
  go_enter Try.func23, Try.ntmps23
  apply wp_seq_k
  intro K1 hK1
  have HK1 := Lib.hid hK1
  clear hK1
  go_wp2
  refine HK1.out _ _ ?_
  clear HK1
  apply wp_seq_k
  intro K2 hK2
  have HK2 := Lib.hid hK2
  clear hK2
  go_wp2
  refine HK2.out _ _ ?_
  clear HK2
  generalize (((((w.alloc (box2 n0 n1)).alloc (box2 k0 k1)).alloc (box2 s0 s1)).alloc (box4 p0 p1 p2 p3)).alloc (box2 0 0)).alloc (box2 0 0) = u0 at *
  replace J := J.out
  apply wp_seq_k
  intro K3 hK3
  have HK3 := Lib.hid hK3
  clear hK3
  go_wp2
  refine wp_loop_rounds 3 ?_
  rw [rounds_succ]
  go_wp2
  refine wp_loopS [16,17,18,19,20,21,22,23,24,25,26,27,28,29,30,31,32,33,34,35,36,37,38,39,40,41,42,43,44] (fun _ W => ∃ m : Int, 0 ≤ m ∧ m ≤ (((n0 + p0 + p2) - k0) / s0 + 1) ∧ RO n0 n1 k0 k1 s0 s1 p0 p1 p2 p3 m 0 w W) (fun _ W => ((((n0 + p0 + p2) - k0) / s0 + 1) + 1 - intOf ((W.cell? ⟨w.heap.size + 1 + 1 + 1 + 1 + 1, 0, none⟩).getD undef)).toNat) ⟨0, Int.le_refl _, by have HH := H.out; have := Int.ediv_nonneg (a := (n0 + p0 + p2) - k0) (b := s0) (by omega) (by omega); omega, J⟩ ?_
  intro vs W b hb hI
  obtain ⟨m, hm0, hm1, hG⟩ := hI
  clear J
  have chd : W.cell? ⟨w.heap.size + 1 + 1 + 1 + 1 + 1, 0, none⟩ = some (.int .i64 m) := (blk_cell hG.b5 0).trans rfl
  have chd := Lib.hid chd
  simp only [setSlots, Act.put, List.setIfInBounds_toArray, List.set_cons_succ, List.set_cons_zero] at hb
  subst hb
  go_wp2
  have hJ := hG
  clear hG
  refine wp_drawn (R := fun W W' => Below W.heap.size W W') 24 [.val (.int .i64 0), .val (.pointer (some ⟨w.heap.size + 1 + 1 + 1 + 1 + 1, 0, none⟩)), .val (.int .i64 m), .val (.int .i64 0), .val (.pointer (some ⟨w.heap.size + 1 + 1, 0, none⟩)), .val (.int .i64 s0), .val (.int .i64 (m * s0)), .val (.int .i64 0), .val (.pointer (some ⟨w.heap.size + 1, 0, none⟩)), .val (.int .i64 k0), .val (.int .i64 ((m * s0) + k0)), .val (.int .i64 0), .val (.pointer (some ⟨w.heap.size, 0, none⟩)), .val (.int .i64 n0), .val (.int .i64 0), .val (.pointer (some ⟨w.heap.size + 1 + 1 + 1, 0, none⟩)), .val (.int .i64 p0), .val (.int .i64 (n0 + p0)), .val (.int .i64 0), .val (.int .i64 (2)), .val (.pointer (some ⟨w.heap.size + 1 + 1 + 1, 2, none⟩)), .val (.int .i64 p2), .val (.int .i64 ((n0 + p0) + p2)), .val (.bool (decide (((m * s0) + k0) ≤ ((n0 + p0) + p2))))] (fun W => RO n0 n1 k0 k1 s0 s1 p0 p1 p2 p3 m 0 w W) rfl (by kernel_rfl) hJ.drew ?_ ?_
  · intro vs W hG b hb
    have e4 : b.eval (.tmp 4) = .pointer (some ⟨w.heap.size, 0, none⟩) := (congrArg (fun x => Act.eval x (.tmp 4)) hb).trans ((fill_out _ 0 _ (by kernel_rfl)).trans rfl)
    have e5 : b.eval (.tmp 5) = .pointer (some ⟨w.heap.size + 1, 0, none⟩) := (congrArg (fun x => Act.eval x (.tmp 5)) hb).trans ((fill_out _ 0 _ (by kernel_rfl)).trans rfl)
    have e6 : b.eval (.tmp 6) = .pointer (some ⟨w.heap.size + 1 + 1, 0, none⟩) := (congrArg (fun x => Act.eval x (.tmp 6)) hb).trans ((fill_out _ 0 _ (by kernel_rfl)).trans rfl)
    have e7 : b.eval (.tmp 7) = .pointer (some ⟨w.heap.size + 1 + 1 + 1, 0, none⟩) := (congrArg (fun x => Act.eval x (.tmp 7)) hb).trans ((fill_out _ 0 _ (by kernel_rfl)).trans rfl)
    have e9 : b.eval (.tmp 9) = .pointer (some ⟨w.heap.size + 1 + 1 + 1 + 1 + 1, 0, none⟩) := (congrArg (fun x => Act.eval x (.tmp 9)) hb).trans ((fill_out _ 0 _ (by kernel_rfl)).trans rfl)
    have e10 : b.eval (.tmp 10) = .int .i64 0 := (congrArg (fun x => Act.eval x (.tmp 10)) hb).trans ((fill_out _ 0 _ (by kernel_rfl)).trans rfl)
    have i16 : b.eval (.tmp 16) = vs 0 := (congrArg (fun x => Act.eval x (.tmp 16)) hb).trans ((fill_in _ 0 0 _ _ 16 (by kernel_rfl) rfl rfl (by simp)).trans (congrArg vs (Nat.zero_add _)))
    have i17 : b.eval (.tmp 17) = vs 1 := (congrArg (fun x => Act.eval x (.tmp 17)) hb).trans ((fill_in _ 0 1 _ _ 17 (by kernel_rfl) rfl rfl (by simp)).trans (congrArg vs (Nat.zero_add _)))
    have i18 : b.eval (.tmp 18) = vs 2 := (congrArg (fun x => Act.eval x (.tmp 18)) hb).trans ((fill_in _ 0 2 _ _ 18 (by kernel_rfl) rfl rfl (by simp)).trans (congrArg vs (Nat.zero_add _)))
    have i19 : b.eval (.tmp 19) = vs 3 := (congrArg (fun x => Act.eval x (.tmp 19)) hb).trans ((fill_in _ 0 3 _ _ 19 (by kernel_rfl) rfl rfl (by simp)).trans (congrArg vs (Nat.zero_add _)))
    have i20 : b.eval (.tmp 20) = vs 4 := (congrArg (fun x => Act.eval x (.tmp 20)) hb).trans ((fill_in _ 0 4 _ _ 20 (by kernel_rfl) rfl rfl (by simp)).trans (congrArg vs (Nat.zero_add _)))
    have i21 : b.eval (.tmp 21) = vs 5 := (congrArg (fun x => Act.eval x (.tmp 21)) hb).trans ((fill_in _ 0 5 _ _ 21 (by kernel_rfl) rfl rfl (by simp)).trans (congrArg vs (Nat.zero_add _)))
    have i22 : b.eval (.tmp 22) = vs 6 := (congrArg (fun x => Act.eval x (.tmp 22)) hb).trans ((fill_in _ 0 6 _ _ 22 (by kernel_rfl) rfl rfl (by simp)).trans (congrArg vs (Nat.zero_add _)))
    have i23 : b.eval (.tmp 23) = vs 7 := (congrArg (fun x => Act.eval x (.tmp 23)) hb).trans ((fill_in _ 0 7 _ _ 23 (by kernel_rfl) rfl rfl (by simp)).trans (congrArg vs (Nat.zero_add _)))
    have i24 : b.eval (.tmp 24) = vs 8 := (congrArg (fun x => Act.eval x (.tmp 24)) hb).trans ((fill_in _ 0 8 _ _ 24 (by kernel_rfl) rfl rfl (by simp)).trans (congrArg vs (Nat.zero_add _)))
    have i25 : b.eval (.tmp 25) = vs 9 := (congrArg (fun x => Act.eval x (.tmp 25)) hb).trans ((fill_in _ 0 9 _ _ 25 (by kernel_rfl) rfl rfl (by simp)).trans (congrArg vs (Nat.zero_add _)))
    have i26 : b.eval (.tmp 26) = vs 10 := (congrArg (fun x => Act.eval x (.tmp 26)) hb).trans ((fill_in _ 0 10 _ _ 26 (by kernel_rfl) rfl rfl (by simp)).trans (congrArg vs (Nat.zero_add _)))
    have i27 : b.eval (.tmp 27) = vs 11 := (congrArg (fun x => Act.eval x (.tmp 27)) hb).trans ((fill_in _ 0 11 _ _ 27 (by kernel_rfl) rfl rfl (by simp)).trans (congrArg vs (Nat.zero_add _)))
    have i28 : b.eval (.tmp 28) = vs 12 := (congrArg (fun x => Act.eval x (.tmp 28)) hb).trans ((fill_in _ 0 12 _ _ 28 (by kernel_rfl) rfl rfl (by simp)).trans (congrArg vs (Nat.zero_add _)))
    have i29 : b.eval (.tmp 29) = vs 13 := (congrArg (fun x => Act.eval x (.tmp 29)) hb).trans ((fill_in _ 0 13 _ _ 29 (by kernel_rfl) rfl rfl (by simp)).trans (congrArg vs (Nat.zero_add _)))
    have i30 : b.eval (.tmp 30) = vs 14 := (congrArg (fun x => Act.eval x (.tmp 30)) hb).trans ((fill_in _ 0 14 _ _ 30 (by kernel_rfl) rfl rfl (by simp)).trans (congrArg vs (Nat.zero_add _)))
    have i31 : b.eval (.tmp 31) = vs 15 := (congrArg (fun x => Act.eval x (.tmp 31)) hb).trans ((fill_in _ 0 15 _ _ 31 (by kernel_rfl) rfl rfl (by simp)).trans (congrArg vs (Nat.zero_add _)))
    have i32 : b.eval (.tmp 32) = vs 16 := (congrArg (fun x => Act.eval x (.tmp 32)) hb).trans ((fill_in _ 0 16 _ _ 32 (by kernel_rfl) rfl rfl (by simp)).trans (congrArg vs (Nat.zero_add _)))
    have i33 : b.eval (.tmp 33) = vs 17 := (congrArg (fun x => Act.eval x (.tmp 33)) hb).trans ((fill_in _ 0 17 _ _ 33 (by kernel_rfl) rfl rfl (by simp)).trans (congrArg vs (Nat.zero_add _)))
    have i34 : b.eval (.tmp 34) = vs 18 := (congrArg (fun x => Act.eval x (.tmp 34)) hb).trans ((fill_in _ 0 18 _ _ 34 (by kernel_rfl) rfl rfl (by simp)).trans (congrArg vs (Nat.zero_add _)))
    have i35 : b.eval (.tmp 35) = vs 19 := (congrArg (fun x => Act.eval x (.tmp 35)) hb).trans ((fill_in _ 0 19 _ _ 35 (by kernel_rfl) rfl rfl (by simp)).trans (congrArg vs (Nat.zero_add _)))
    have i36 : b.eval (.tmp 36) = vs 20 := (congrArg (fun x => Act.eval x (.tmp 36)) hb).trans ((fill_in _ 0 20 _ _ 36 (by kernel_rfl) rfl rfl (by simp)).trans (congrArg vs (Nat.zero_add _)))
    have i37 : b.eval (.tmp 37) = vs 21 := (congrArg (fun x => Act.eval x (.tmp 37)) hb).trans ((fill_in _ 0 21 _ _ 37 (by kernel_rfl) rfl rfl (by simp)).trans (congrArg vs (Nat.zero_add _)))
    have i38 : b.eval (.tmp 38) = vs 22 := (congrArg (fun x => Act.eval x (.tmp 38)) hb).trans ((fill_in _ 0 22 _ _ 38 (by kernel_rfl) rfl rfl (by simp)).trans (congrArg vs (Nat.zero_add _)))
    clear hb
    refine And.intro ?_ (And.intro ?_ (And.intro ?_ (And.intro ?_ (And.intro ?_ (And.intro ?_ (And.intro ?_ (And.intro ?_ (And.intro ?_ (And.intro ?_ (And.intro ?_ (And.intro ?_ (And.intro ?_ (And.intro ?_ (And.intro ?_ (And.intro ?_ (And.intro ?_ (And.intro ?_ (And.intro ?_ (And.intro ?_ (And.intro ?_ (And.intro ?_ (And.intro ?_ (And.intro ?_ (trivial))))))))))))))))))))))))
    · intro hp K hK
      refine g_no rfl ?_
      exact st_move (.inl rfl) (e10) (hK _ _ rfl hG (Below.refl _ _))
    · intro hp K hK
      refine g_no rfl ?_
      have e16 : b.eval (.tmp 16) = .int .i64 0 := i16.trans (hp 0 (by kernel_rfl))
      exact st_index rfl (e9) (e16) (by kernel_rfl) (hK _ _ rfl hG (Below.refl _ _))
    · intro hp K hK
      refine g_no rfl ?_
      have e17 : b.eval (.tmp 17) = .pointer (some ⟨w.heap.size + 1 + 1 + 1 + 1 + 1, 0, none⟩) := i17.trans (hp 1 (by kernel_rfl))
      exact st_load rfl (e17) (ld1 ((blk_cell hG.b5 0).trans rfl)) (hK _ _ rfl hG (Below.refl _ _))
    · intro hp K hK
      refine g_no rfl ?_
      exact st_move (.inl rfl) (e10) (hK _ _ rfl hG (Below.refl _ _))
    · intro hp K hK
      refine g_no rfl ?_
      have e19 : b.eval (.tmp 19) = .int .i64 0 := i19.trans (hp 3 (by kernel_rfl))
      exact st_index rfl (e6) (e19) (by kernel_rfl) (hK _ _ rfl hG (Below.refl _ _))
    · intro hp K hK
      refine g_no rfl ?_
      have e20 : b.eval (.tmp 20) = .pointer (some ⟨w.heap.size + 1 + 1, 0, none⟩) := i20.trans (hp 4 (by kernel_rfl))
      exact st_load rfl (e20) (ld1 ((blk_cell hG.b2 0).trans rfl)) (hK _ _ rfl hG (Below.refl _ _))
    · intro hp K hK
      refine g_no rfl ?_
      have e18 : b.eval (.tmp 18) = .int .i64 m := i18.trans (hp 2 (by kernel_rfl))
      have e21 : b.eval (.tmp 21) = .int .i64 s0 := i21.trans (hp 5 (by kernel_rfl))
      have HH := H.out
      obtain ⟨_, _⟩ := prod_small (a := (n0 + p0 + p2)) (k := k0) hm0 (show 1 ≤ s0 by omega) (by omega) (by omega) (by omega) hm1
      exact st_bin rfl (e18) (e21) (b_mul (by first | rfl | exact IntWalk.i64_in _ (by omega))) (hK _ _ rfl hG (Below.refl _ _))
    · intro hp K hK
      refine g_no rfl ?_
      exact st_move (.inl rfl) (e10) (hK _ _ rfl hG (Below.refl _ _))
    · intro hp K hK
      refine g_no rfl ?_
      have e23 : b.eval (.tmp 23) = .int .i64 0 := i23.trans (hp 7 (by kernel_rfl))
      exact st_index rfl (e5) (e23) (by kernel_rfl) (hK _ _ rfl hG (Below.refl _ _))
    · intro hp K hK
      refine g_no rfl ?_
      have e24 : b.eval (.tmp 24) = .pointer (some ⟨w.heap.size + 1, 0, none⟩) := i24.trans (hp 8 (by kernel_rfl))
      exact st_load rfl (e24) (ld1 ((blk_cell hG.b1 0).trans rfl)) (hK _ _ rfl hG (Below.refl _ _))
    · intro hp K hK
      refine g_no rfl ?_
      have e22 : b.eval (.tmp 22) = .int .i64 (m * s0) := i22.trans (hp 6 (by kernel_rfl))
      have e25 : b.eval (.tmp 25) = .int .i64 k0 := i25.trans (hp 9 (by kernel_rfl))
      have HH := H.out
      obtain ⟨_, _⟩ := prod_small (a := (n0 + p0 + p2)) (k := k0) hm0 (show 1 ≤ s0 by omega) (by omega) (by omega) (by omega) hm1
      exact st_bin rfl (e22) (e25) (b_add (by first | rfl | exact IntWalk.i64_in _ (by omega))) (hK _ _ rfl hG (Below.refl _ _))
    · intro hp K hK
      refine g_no rfl ?_
      exact st_move (.inl rfl) (e10) (hK _ _ rfl hG (Below.refl _ _))
    · intro hp K hK
      refine g_no rfl ?_
      have e27 : b.eval (.tmp 27) = .int .i64 0 := i27.trans (hp 11 (by kernel_rfl))
      exact st_index rfl (e4) (e27) (by kernel_rfl) (hK _ _ rfl hG (Below.refl _ _))
    · intro hp K hK
      refine g_no rfl ?_
      have e28 : b.eval (.tmp 28) = .pointer (some ⟨w.heap.size, 0, none⟩) := i28.trans (hp 12 (by kernel_rfl))
      exact st_load rfl (e28) (ld1 ((blk_cell hG.b0 0).trans rfl)) (hK _ _ rfl hG (Below.refl _ _))
    · intro hp K hK
      refine g_no rfl ?_
      exact st_move (.inl rfl) (e10) (hK _ _ rfl hG (Below.refl _ _))
    · intro hp K hK
      refine g_no rfl ?_
      have e30 : b.eval (.tmp 30) = .int .i64 0 := i30.trans (hp 14 (by kernel_rfl))
      exact st_index rfl (e7) (e30) (by kernel_rfl) (hK _ _ rfl hG (Below.refl _ _))
    · intro hp K hK
      refine g_no rfl ?_
      have e31 : b.eval (.tmp 31) = .pointer (some ⟨w.heap.size + 1 + 1 + 1, 0, none⟩) := i31.trans (hp 15 (by kernel_rfl))
      exact st_load rfl (e31) (ld1 ((blk_cell hG.b3 0).trans rfl)) (hK _ _ rfl hG (Below.refl _ _))
    · intro hp K hK
      refine g_no rfl ?_
      have e29 : b.eval (.tmp 29) = .int .i64 n0 := i29.trans (hp 13 (by kernel_rfl))
      have e32 : b.eval (.tmp 32) = .int .i64 p0 := i32.trans (hp 16 (by kernel_rfl))
      have HH := H.out
      obtain ⟨_, _⟩ := prod_small (a := (n0 + p0 + p2)) (k := k0) hm0 (show 1 ≤ s0 by omega) (by omega) (by omega) (by omega) hm1
      exact st_bin rfl (e29) (e32) (b_add (by first | rfl | exact IntWalk.i64_in _ (by omega))) (hK _ _ rfl hG (Below.refl _ _))
    · intro hp K hK
      refine g_no rfl ?_
      exact st_move (.inl rfl) (e10) (hK _ _ rfl hG (Below.refl _ _))
    · intro hp K hK
      refine g_no rfl ?_
      have e34 : b.eval (.tmp 34) = .int .i64 0 := i34.trans (hp 18 (by kernel_rfl))
      exact st_bin rfl (e34) (eval_const _) (b_add (by first | rfl | exact IntWalk.i64_in _ (by omega))) (hK _ _ rfl hG (Below.refl _ _))
    · intro hp K hK
      refine g_no rfl ?_
      have e35 : b.eval (.tmp 35) = .int .i64 (2) := i35.trans (hp 19 (by kernel_rfl))
      exact st_index rfl (e7) (e35) (by kernel_rfl) (hK _ _ rfl hG (Below.refl _ _))
    · intro hp K hK
      refine g_no rfl ?_
      have e36 : b.eval (.tmp 36) = .pointer (some ⟨w.heap.size + 1 + 1 + 1, 2, none⟩) := i36.trans (hp 20 (by kernel_rfl))
      exact st_load rfl (e36) (ld1 ((blk_cell hG.b3 2).trans rfl)) (hK _ _ rfl hG (Below.refl _ _))
    · intro hp K hK
      refine g_no rfl ?_
      have e33 : b.eval (.tmp 33) = .int .i64 (n0 + p0) := i33.trans (hp 17 (by kernel_rfl))
      have e37 : b.eval (.tmp 37) = .int .i64 p2 := i37.trans (hp 21 (by kernel_rfl))
      have HH := H.out
      obtain ⟨_, _⟩ := prod_small (a := (n0 + p0 + p2)) (k := k0) hm0 (show 1 ≤ s0 by omega) (by omega) (by omega) (by omega) hm1
      exact st_bin rfl (e33) (e37) (b_add (by first | rfl | exact IntWalk.i64_in _ (by omega))) (hK _ _ rfl hG (Below.refl _ _))
    · intro hp K hK
      refine g_no rfl ?_
      have e26 : b.eval (.tmp 26) = .int .i64 ((m * s0) + k0) := i26.trans (hp 10 (by kernel_rfl))
      have e38 : b.eval (.tmp 38) = .int .i64 ((n0 + p0) + p2) := i38.trans (hp 22 (by kernel_rfl))
      exact st_bin rfl (e26) (e38) b_leq (hK _ _ rfl hG (Below.refl _ _))
  intro vs W hG hp b hb
  have q23 : vs 23 = .bool (decide (((m * s0) + k0) ≤ ((n0 + p0) + p2))) := hp 23 (by decide)
  clear hp
  simp only [fill, Act.put, List.append_eq, List.cons_append, List.nil_append, List.take_succ_cons, List.take_zero, List.setIfInBounds_toArray, List.set_cons_succ, List.set_cons_zero, Nat.reduceAdd, Nat.zero_add, q23] at hb
  subst hb
  refine wpList_nil ?_
  clear q23
  clear hJ
  have c5 : W.cell? ⟨w.heap.size + 1 + 1 + 1 + 1 + 1, 0, none⟩ = some (.int .i64 m) := (blk_cell hG.b5 0).trans rfl
  have f5 := blk_frozen hG.b5 0
  have hG := Lib.hid hG
  have v5 : IntKind.i64.wrap (m + 1) = m + 1 := IntWalk.i64_in _ (by
    have HH := H.out
    obtain ⟨_, _⟩ := prod_small (a := (n0 + p0 + p2)) (k := k0) hm0 (show 1 ≤ s0 by omega) (by omega) (by omega) (by omega) hm1
    have : m ≤ m * s0 ∨ m = 0 := by
      by_cases h : m = 0
      · exact .inr h
      · exact .inl (by have := Int.mul_le_mul_of_nonneg_left (show 1 ≤ s0 by omega) hm0; omega)
    omega)
  have hm0 := Lib.hid hm0
  have hm1 := Lib.hid hm1
  go_wp2
  · have hle : m * s0 + k0 ≤ n0 + p0 + p2 := by assumption
    have hp := hG.out.put0 (m + 1)
    refine ⟨loop_frame (by kernel_rfl), ⟨m + 1, by have := hm0.out; omega, by have HH := H.out; have := step_le (s := s0) hm0.out (by omega) hle; omega, hp⟩, ?_⟩
    rw [chd.out, (blk_cell hp.b5 0).trans rfl]
    have := hm1.out
    simp [intOf]
    omega
  have hle : n0 + p0 + p2 < m * s0 + k0 := by assumption
  have hm : m = (((n0 + p0 + p2) - k0) / s0 + 1) := by
    have HH := H.out
    exact stop_eq (by omega) hm1.out (by omega)
  subst hm
  have J := hG.out
  clear hG chd c5 f5 v5 hm0 hm1 hle
  rw [rounds_succ]
  go_wp2
  refine wp_loopS [16,17,18,19,20,21,22,23,24,25,26,27,28,29,30,31,32,33,34,35,36,37,38,39,40,41,42,43,44] (fun _ W => ∃ m : Int, 0 ≤ m ∧ m ≤ (((n1 + p1 + p3) - k1) / s1 + 1) ∧ RO n0 n1 k0 k1 s0 s1 p0 p1 p2 p3 (((n0 + p0 + p2) - k0) / s0 + 1) m w W) (fun _ W => ((((n1 + p1 + p3) - k1) / s1 + 1) + 1 - intOf ((W.cell? ⟨w.heap.size + 1 + 1 + 1 + 1 + 1, 1, none⟩).getD undef)).toNat) ⟨0, Int.le_refl _, by have HH := H.out; have := Int.ediv_nonneg (a := (n1 + p1 + p3) - k1) (b := s1) (by omega) (by omega); omega, J⟩ ?_
  intro vs W b hb hI
  obtain ⟨m, hm0, hm1, hG⟩ := hI
  clear J
  have chd : W.cell? ⟨w.heap.size + 1 + 1 + 1 + 1 + 1, 1, none⟩ = some (.int .i64 m) := (blk_cell hG.b5 1).trans rfl
  have chd := Lib.hid chd
  simp only [setSlots, Act.put, List.setIfInBounds_toArray, List.set_cons_succ, List.set_cons_zero] at hb
  subst hb
  go_wp2
  have hJ := hG
  clear hG
  refine wp_drawn (R := fun W W' => Below W.heap.size W W') 24 [.val (.int .i64 1), .val (.pointer (some ⟨w.heap.size + 1 + 1 + 1 + 1 + 1, 1, none⟩)), .val (.int .i64 m), .val (.int .i64 1), .val (.pointer (some ⟨w.heap.size + 1 + 1, 1, none⟩)), .val (.int .i64 s1), .val (.int .i64 (m * s1)), .val (.int .i64 1), .val (.pointer (some ⟨w.heap.size + 1, 1, none⟩)), .val (.int .i64 k1), .val (.int .i64 ((m * s1) + k1)), .val (.int .i64 1), .val (.pointer (some ⟨w.heap.size, 1, none⟩)), .val (.int .i64 n1), .val (.int .i64 1), .val (.pointer (some ⟨w.heap.size + 1 + 1 + 1, 1, none⟩)), .val (.int .i64 p1), .val (.int .i64 (n1 + p1)), .val (.int .i64 1), .val (.int .i64 (3)), .val (.pointer (some ⟨w.heap.size + 1 + 1 + 1, 3, none⟩)), .val (.int .i64 p3), .val (.int .i64 ((n1 + p1) + p3)), .val (.bool (decide (((m * s1) + k1) ≤ ((n1 + p1) + p3))))] (fun W => RO n0 n1 k0 k1 s0 s1 p0 p1 p2 p3 (((n0 + p0 + p2) - k0) / s0 + 1) m w W) rfl (by kernel_rfl) hJ.drew ?_ ?_
  · intro vs W hG b hb
    have e4 : b.eval (.tmp 4) = .pointer (some ⟨w.heap.size, 0, none⟩) := (congrArg (fun x => Act.eval x (.tmp 4)) hb).trans ((fill_out _ 0 _ (by kernel_rfl)).trans rfl)
    have e5 : b.eval (.tmp 5) = .pointer (some ⟨w.heap.size + 1, 0, none⟩) := (congrArg (fun x => Act.eval x (.tmp 5)) hb).trans ((fill_out _ 0 _ (by kernel_rfl)).trans rfl)
    have e6 : b.eval (.tmp 6) = .pointer (some ⟨w.heap.size + 1 + 1, 0, none⟩) := (congrArg (fun x => Act.eval x (.tmp 6)) hb).trans ((fill_out _ 0 _ (by kernel_rfl)).trans rfl)
    have e7 : b.eval (.tmp 7) = .pointer (some ⟨w.heap.size + 1 + 1 + 1, 0, none⟩) := (congrArg (fun x => Act.eval x (.tmp 7)) hb).trans ((fill_out _ 0 _ (by kernel_rfl)).trans rfl)
    have e9 : b.eval (.tmp 9) = .pointer (some ⟨w.heap.size + 1 + 1 + 1 + 1 + 1, 0, none⟩) := (congrArg (fun x => Act.eval x (.tmp 9)) hb).trans ((fill_out _ 0 _ (by kernel_rfl)).trans rfl)
    have e10 : b.eval (.tmp 10) = .int .i64 1 := (congrArg (fun x => Act.eval x (.tmp 10)) hb).trans ((fill_out _ 0 _ (by kernel_rfl)).trans rfl)
    have i16 : b.eval (.tmp 16) = vs 0 := (congrArg (fun x => Act.eval x (.tmp 16)) hb).trans ((fill_in _ 0 0 _ _ 16 (by kernel_rfl) rfl rfl (by simp)).trans (congrArg vs (Nat.zero_add _)))
    have i17 : b.eval (.tmp 17) = vs 1 := (congrArg (fun x => Act.eval x (.tmp 17)) hb).trans ((fill_in _ 0 1 _ _ 17 (by kernel_rfl) rfl rfl (by simp)).trans (congrArg vs (Nat.zero_add _)))
    have i18 : b.eval (.tmp 18) = vs 2 := (congrArg (fun x => Act.eval x (.tmp 18)) hb).trans ((fill_in _ 0 2 _ _ 18 (by kernel_rfl) rfl rfl (by simp)).trans (congrArg vs (Nat.zero_add _)))
    have i19 : b.eval (.tmp 19) = vs 3 := (congrArg (fun x => Act.eval x (.tmp 19)) hb).trans ((fill_in _ 0 3 _ _ 19 (by kernel_rfl) rfl rfl (by simp)).trans (congrArg vs (Nat.zero_add _)))
    have i20 : b.eval (.tmp 20) = vs 4 := (congrArg (fun x => Act.eval x (.tmp 20)) hb).trans ((fill_in _ 0 4 _ _ 20 (by kernel_rfl) rfl rfl (by simp)).trans (congrArg vs (Nat.zero_add _)))
    have i21 : b.eval (.tmp 21) = vs 5 := (congrArg (fun x => Act.eval x (.tmp 21)) hb).trans ((fill_in _ 0 5 _ _ 21 (by kernel_rfl) rfl rfl (by simp)).trans (congrArg vs (Nat.zero_add _)))
    have i22 : b.eval (.tmp 22) = vs 6 := (congrArg (fun x => Act.eval x (.tmp 22)) hb).trans ((fill_in _ 0 6 _ _ 22 (by kernel_rfl) rfl rfl (by simp)).trans (congrArg vs (Nat.zero_add _)))
    have i23 : b.eval (.tmp 23) = vs 7 := (congrArg (fun x => Act.eval x (.tmp 23)) hb).trans ((fill_in _ 0 7 _ _ 23 (by kernel_rfl) rfl rfl (by simp)).trans (congrArg vs (Nat.zero_add _)))
    have i24 : b.eval (.tmp 24) = vs 8 := (congrArg (fun x => Act.eval x (.tmp 24)) hb).trans ((fill_in _ 0 8 _ _ 24 (by kernel_rfl) rfl rfl (by simp)).trans (congrArg vs (Nat.zero_add _)))
    have i25 : b.eval (.tmp 25) = vs 9 := (congrArg (fun x => Act.eval x (.tmp 25)) hb).trans ((fill_in _ 0 9 _ _ 25 (by kernel_rfl) rfl rfl (by simp)).trans (congrArg vs (Nat.zero_add _)))
    have i26 : b.eval (.tmp 26) = vs 10 := (congrArg (fun x => Act.eval x (.tmp 26)) hb).trans ((fill_in _ 0 10 _ _ 26 (by kernel_rfl) rfl rfl (by simp)).trans (congrArg vs (Nat.zero_add _)))
    have i27 : b.eval (.tmp 27) = vs 11 := (congrArg (fun x => Act.eval x (.tmp 27)) hb).trans ((fill_in _ 0 11 _ _ 27 (by kernel_rfl) rfl rfl (by simp)).trans (congrArg vs (Nat.zero_add _)))
    have i28 : b.eval (.tmp 28) = vs 12 := (congrArg (fun x => Act.eval x (.tmp 28)) hb).trans ((fill_in _ 0 12 _ _ 28 (by kernel_rfl) rfl rfl (by simp)).trans (congrArg vs (Nat.zero_add _)))
    have i29 : b.eval (.tmp 29) = vs 13 := (congrArg (fun x => Act.eval x (.tmp 29)) hb).trans ((fill_in _ 0 13 _ _ 29 (by kernel_rfl) rfl rfl (by simp)).trans (congrArg vs (Nat.zero_add _)))
    have i30 : b.eval (.tmp 30) = vs 14 := (congrArg (fun x => Act.eval x (.tmp 30)) hb).trans ((fill_in _ 0 14 _ _ 30 (by kernel_rfl) rfl rfl (by simp)).trans (congrArg vs (Nat.zero_add _)))
    have i31 : b.eval (.tmp 31) = vs 15 := (congrArg (fun x => Act.eval x (.tmp 31)) hb).trans ((fill_in _ 0 15 _ _ 31 (by kernel_rfl) rfl rfl (by simp)).trans (congrArg vs (Nat.zero_add _)))
    have i32 : b.eval (.tmp 32) = vs 16 := (congrArg (fun x => Act.eval x (.tmp 32)) hb).trans ((fill_in _ 0 16 _ _ 32 (by kernel_rfl) rfl rfl (by simp)).trans (congrArg vs (Nat.zero_add _)))
    have i33 : b.eval (.tmp 33) = vs 17 := (congrArg (fun x => Act.eval x (.tmp 33)) hb).trans ((fill_in _ 0 17 _ _ 33 (by kernel_rfl) rfl rfl (by simp)).trans (congrArg vs (Nat.zero_add _)))
    have i34 : b.eval (.tmp 34) = vs 18 := (congrArg (fun x => Act.eval x (.tmp 34)) hb).trans ((fill_in _ 0 18 _ _ 34 (by kernel_rfl) rfl rfl (by simp)).trans (congrArg vs (Nat.zero_add _)))
    have i35 : b.eval (.tmp 35) = vs 19 := (congrArg (fun x => Act.eval x (.tmp 35)) hb).trans ((fill_in _ 0 19 _ _ 35 (by kernel_rfl) rfl rfl (by simp)).trans (congrArg vs (Nat.zero_add _)))
    have i36 : b.eval (.tmp 36) = vs 20 := (congrArg (fun x => Act.eval x (.tmp 36)) hb).trans ((fill_in _ 0 20 _ _ 36 (by kernel_rfl) rfl rfl (by simp)).trans (congrArg vs (Nat.zero_add _)))
    have i37 : b.eval (.tmp 37) = vs 21 := (congrArg (fun x => Act.eval x (.tmp 37)) hb).trans ((fill_in _ 0 21 _ _ 37 (by kernel_rfl) rfl rfl (by simp)).trans (congrArg vs (Nat.zero_add _)))
    have i38 : b.eval (.tmp 38) = vs 22 := (congrArg (fun x => Act.eval x (.tmp 38)) hb).trans ((fill_in _ 0 22 _ _ 38 (by kernel_rfl) rfl rfl (by simp)).trans (congrArg vs (Nat.zero_add _)))
    clear hb
    refine And.intro ?_ (And.intro ?_ (And.intro ?_ (And.intro ?_ (And.intro ?_ (And.intro ?_ (And.intro ?_ (And.intro ?_ (And.intro ?_ (And.intro ?_ (And.intro ?_ (And.intro ?_ (And.intro ?_ (And.intro ?_ (And.intro ?_ (And.intro ?_ (And.intro ?_ (And.intro ?_ (And.intro ?_ (And.intro ?_ (And.intro ?_ (And.intro ?_ (And.intro ?_ (And.intro ?_ (trivial))))))))))))))))))))))))
    · intro hp K hK
      refine g_no rfl ?_
      exact st_move (.inl rfl) (e10) (hK _ _ rfl hG (Below.refl _ _))
    · intro hp K hK
      refine g_no rfl ?_
      have e16 : b.eval (.tmp 16) = .int .i64 1 := i16.trans (hp 0 (by kernel_rfl))
      exact st_index rfl (e9) (e16) (by kernel_rfl) (hK _ _ rfl hG (Below.refl _ _))
    · intro hp K hK
      refine g_no rfl ?_
      have e17 : b.eval (.tmp 17) = .pointer (some ⟨w.heap.size + 1 + 1 + 1 + 1 + 1, 1, none⟩) := i17.trans (hp 1 (by kernel_rfl))
      exact st_load rfl (e17) (ld1 ((blk_cell hG.b5 1).trans rfl)) (hK _ _ rfl hG (Below.refl _ _))
    · intro hp K hK
      refine g_no rfl ?_
      exact st_move (.inl rfl) (e10) (hK _ _ rfl hG (Below.refl _ _))
    · intro hp K hK
      refine g_no rfl ?_
      have e19 : b.eval (.tmp 19) = .int .i64 1 := i19.trans (hp 3 (by kernel_rfl))
      exact st_index rfl (e6) (e19) (by kernel_rfl) (hK _ _ rfl hG (Below.refl _ _))
    · intro hp K hK
      refine g_no rfl ?_
      have e20 : b.eval (.tmp 20) = .pointer (some ⟨w.heap.size + 1 + 1, 1, none⟩) := i20.trans (hp 4 (by kernel_rfl))
      exact st_load rfl (e20) (ld1 ((blk_cell hG.b2 1).trans rfl)) (hK _ _ rfl hG (Below.refl _ _))
    · intro hp K hK
      refine g_no rfl ?_
      have e18 : b.eval (.tmp 18) = .int .i64 m := i18.trans (hp 2 (by kernel_rfl))
      have e21 : b.eval (.tmp 21) = .int .i64 s1 := i21.trans (hp 5 (by kernel_rfl))
      have HH := H.out
      obtain ⟨_, _⟩ := prod_small (a := (n1 + p1 + p3)) (k := k1) hm0 (show 1 ≤ s1 by omega) (by omega) (by omega) (by omega) hm1
      exact st_bin rfl (e18) (e21) (b_mul (by first | rfl | exact IntWalk.i64_in _ (by omega))) (hK _ _ rfl hG (Below.refl _ _))
    · intro hp K hK
      refine g_no rfl ?_
      exact st_move (.inl rfl) (e10) (hK _ _ rfl hG (Below.refl _ _))
    · intro hp K hK
      refine g_no rfl ?_
      have e23 : b.eval (.tmp 23) = .int .i64 1 := i23.trans (hp 7 (by kernel_rfl))
      exact st_index rfl (e5) (e23) (by kernel_rfl) (hK _ _ rfl hG (Below.refl _ _))
    · intro hp K hK
      refine g_no rfl ?_
      have e24 : b.eval (.tmp 24) = .pointer (some ⟨w.heap.size + 1, 1, none⟩) := i24.trans (hp 8 (by kernel_rfl))
      exact st_load rfl (e24) (ld1 ((blk_cell hG.b1 1).trans rfl)) (hK _ _ rfl hG (Below.refl _ _))
    · intro hp K hK
      refine g_no rfl ?_
      have e22 : b.eval (.tmp 22) = .int .i64 (m * s1) := i22.trans (hp 6 (by kernel_rfl))
      have e25 : b.eval (.tmp 25) = .int .i64 k1 := i25.trans (hp 9 (by kernel_rfl))
      have HH := H.out
      obtain ⟨_, _⟩ := prod_small (a := (n1 + p1 + p3)) (k := k1) hm0 (show 1 ≤ s1 by omega) (by omega) (by omega) (by omega) hm1
      exact st_bin rfl (e22) (e25) (b_add (by first | rfl | exact IntWalk.i64_in _ (by omega))) (hK _ _ rfl hG (Below.refl _ _))
    · intro hp K hK
      refine g_no rfl ?_
      exact st_move (.inl rfl) (e10) (hK _ _ rfl hG (Below.refl _ _))
    · intro hp K hK
      refine g_no rfl ?_
      have e27 : b.eval (.tmp 27) = .int .i64 1 := i27.trans (hp 11 (by kernel_rfl))
      exact st_index rfl (e4) (e27) (by kernel_rfl) (hK _ _ rfl hG (Below.refl _ _))
    · intro hp K hK
      refine g_no rfl ?_
      have e28 : b.eval (.tmp 28) = .pointer (some ⟨w.heap.size, 1, none⟩) := i28.trans (hp 12 (by kernel_rfl))
      exact st_load rfl (e28) (ld1 ((blk_cell hG.b0 1).trans rfl)) (hK _ _ rfl hG (Below.refl _ _))
    · intro hp K hK
      refine g_no rfl ?_
      exact st_move (.inl rfl) (e10) (hK _ _ rfl hG (Below.refl _ _))
    · intro hp K hK
      refine g_no rfl ?_
      have e30 : b.eval (.tmp 30) = .int .i64 1 := i30.trans (hp 14 (by kernel_rfl))
      exact st_index rfl (e7) (e30) (by kernel_rfl) (hK _ _ rfl hG (Below.refl _ _))
    · intro hp K hK
      refine g_no rfl ?_
      have e31 : b.eval (.tmp 31) = .pointer (some ⟨w.heap.size + 1 + 1 + 1, 1, none⟩) := i31.trans (hp 15 (by kernel_rfl))
      exact st_load rfl (e31) (ld1 ((blk_cell hG.b3 1).trans rfl)) (hK _ _ rfl hG (Below.refl _ _))
    · intro hp K hK
      refine g_no rfl ?_
      have e29 : b.eval (.tmp 29) = .int .i64 n1 := i29.trans (hp 13 (by kernel_rfl))
      have e32 : b.eval (.tmp 32) = .int .i64 p1 := i32.trans (hp 16 (by kernel_rfl))
      have HH := H.out
      obtain ⟨_, _⟩ := prod_small (a := (n1 + p1 + p3)) (k := k1) hm0 (show 1 ≤ s1 by omega) (by omega) (by omega) (by omega) hm1
      exact st_bin rfl (e29) (e32) (b_add (by first | rfl | exact IntWalk.i64_in _ (by omega))) (hK _ _ rfl hG (Below.refl _ _))
    · intro hp K hK
      refine g_no rfl ?_
      exact st_move (.inl rfl) (e10) (hK _ _ rfl hG (Below.refl _ _))
    · intro hp K hK
      refine g_no rfl ?_
      have e34 : b.eval (.tmp 34) = .int .i64 1 := i34.trans (hp 18 (by kernel_rfl))
      exact st_bin rfl (e34) (eval_const _) (b_add (by first | rfl | exact IntWalk.i64_in _ (by omega))) (hK _ _ rfl hG (Below.refl _ _))
    · intro hp K hK
      refine g_no rfl ?_
      have e35 : b.eval (.tmp 35) = .int .i64 (3) := i35.trans (hp 19 (by kernel_rfl))
      exact st_index rfl (e7) (e35) (by kernel_rfl) (hK _ _ rfl hG (Below.refl _ _))
    · intro hp K hK
      refine g_no rfl ?_
      have e36 : b.eval (.tmp 36) = .pointer (some ⟨w.heap.size + 1 + 1 + 1, 3, none⟩) := i36.trans (hp 20 (by kernel_rfl))
      exact st_load rfl (e36) (ld1 ((blk_cell hG.b3 3).trans rfl)) (hK _ _ rfl hG (Below.refl _ _))
    · intro hp K hK
      refine g_no rfl ?_
      have e33 : b.eval (.tmp 33) = .int .i64 (n1 + p1) := i33.trans (hp 17 (by kernel_rfl))
      have e37 : b.eval (.tmp 37) = .int .i64 p3 := i37.trans (hp 21 (by kernel_rfl))
      have HH := H.out
      obtain ⟨_, _⟩ := prod_small (a := (n1 + p1 + p3)) (k := k1) hm0 (show 1 ≤ s1 by omega) (by omega) (by omega) (by omega) hm1
      exact st_bin rfl (e33) (e37) (b_add (by first | rfl | exact IntWalk.i64_in _ (by omega))) (hK _ _ rfl hG (Below.refl _ _))
    · intro hp K hK
      refine g_no rfl ?_
      have e26 : b.eval (.tmp 26) = .int .i64 ((m * s1) + k1) := i26.trans (hp 10 (by kernel_rfl))
      have e38 : b.eval (.tmp 38) = .int .i64 ((n1 + p1) + p3) := i38.trans (hp 22 (by kernel_rfl))
      exact st_bin rfl (e26) (e38) b_leq (hK _ _ rfl hG (Below.refl _ _))
  intro vs W hG hp b hb
  have q23 : vs 23 = .bool (decide (((m * s1) + k1) ≤ ((n1 + p1) + p3))) := hp 23 (by decide)
  clear hp
  simp only [fill, Act.put, List.append_eq, List.cons_append, List.nil_append, List.take_succ_cons, List.take_zero, List.setIfInBounds_toArray, List.set_cons_succ, List.set_cons_zero, Nat.reduceAdd, Nat.zero_add, q23] at hb
  subst hb
  refine wpList_nil ?_
  clear q23
  clear hJ
  have c5 : W.cell? ⟨w.heap.size + 1 + 1 + 1 + 1 + 1, 1, none⟩ = some (.int .i64 m) := (blk_cell hG.b5 1).trans rfl
  have f5 := blk_frozen hG.b5 1
  have hG := Lib.hid hG
  have v5 : IntKind.i64.wrap (m + 1) = m + 1 := IntWalk.i64_in _ (by
    have HH := H.out
    obtain ⟨_, _⟩ := prod_small (a := (n1 + p1 + p3)) (k := k1) hm0 (show 1 ≤ s1 by omega) (by omega) (by omega) (by omega) hm1
    have : m ≤ m * s1 ∨ m = 0 := by
      by_cases h : m = 0
      · exact .inr h
      · exact .inl (by have := Int.mul_le_mul_of_nonneg_left (show 1 ≤ s1 by omega) hm0; omega)
    omega)
  have hm0 := Lib.hid hm0
  have hm1 := Lib.hid hm1
  go_wp2
  · have hle : m * s1 + k1 ≤ n1 + p1 + p3 := by assumption
    have hp := hG.out.put1 (m + 1)
    refine ⟨loop_frame (by kernel_rfl), ⟨m + 1, by have := hm0.out; omega, by have HH := H.out; have := step_le (s := s1) hm0.out (by omega) hle; omega, hp⟩, ?_⟩
    rw [chd.out, (blk_cell hp.b5 1).trans rfl]
    have := hm1.out
    simp [intOf]
    omega
  have hle : n1 + p1 + p3 < m * s1 + k1 := by assumption
  have hm : m = (((n1 + p1 + p3) - k1) / s1 + 1) := by
    have HH := H.out
    exact stop_eq (by omega) hm1.out (by omega)
  subst hm
  have J := hG.out
  clear hG chd c5 f5 v5 hm0 hm1 hle
  rw [rounds_succ]
  go_wp2
  refine HK3.out _ _ ?_
  clear HK3
  have c40 := blk_cell J.b4 0
  have f40 := blk_frozen J.b4 0
  replace c40 := c40.trans rfl
  have c50 : W.cell? ⟨w.heap.size + 1 + 1 + 1 + 1 + 1, 0, none⟩ = some (.int .i64 (((n0 + p0 + p2) - k0) / s0 + 1)) := (blk_cell J.b5 0).trans rfl
  have c41 := blk_cell J.b4 1
  have f41 := blk_frozen J.b4 1
  replace c41 := c41.trans rfl
  have c51 : W.cell? ⟨w.heap.size + 1 + 1 + 1 + 1 + 1, 1, none⟩ = some (.int .i64 (((n1 + p1 + p3) - k1) / s1 + 1)) := (blk_cell J.b5 1).trans rfl
  have J := Lib.hid J
  go_wp2
  refine bodyPost_ret (results_c rfl _ _ (w.heap.size + 1 + 1 + 1 + 1) 34 #[.int .i64 (((n0 + p0 + p2) - k0) / s0 + 1), .int .i64 (((n1 + p1 + p3) - k1) / s1 + 1)] (0, 0) _ rfl (blk_put (blk_put J.out.b4 0 _ rfl) 1 _ rfl) Try.underlying34 rfl (by kernel_rfl)) rfl ?_
  exact ⟨rfl, below_set (below_set J.out.bel (by omega)) (by omega)⟩
end Go.Proofs.Ytfcimgdogkpbcaa.W
