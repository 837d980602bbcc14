/- Window: the reference's Taps, place by place. -/
import Derived.Test.YtfcimgdogkpbcaaW11
import Derived.OwnWalk
import Derived.Laws.AppendOwn
namespace Go.Proofs.Ytfcimgdogkpbcaa.W
open Go.RowKit T1 F Dr
set_option linter.unusedVariables false
set_option linter.unusedSimpArgs false
set_option maxRecDepth 100000

theorem bs1 (W : World) (i j : Int) : (Instr.buildSlice 45 1 #[(0, .agg #[.int .i64 i, .int .i64 j])]).run Try.prog W = .ok (.slice (some ⟨W.heap.size, 0, none⟩) 1 1) (W.alloc (.cells #[.int .i64 i, .int .i64 j] 34)) := by kernel_rfl
theorem bs0 (W : World) : (Instr.buildSlice 45 0 #[]).run Try.prog W = .ok (.slice (some ⟨W.heap.size, 0, none⟩) 0 0) (W.alloc (.cells #[] 34)) := by kernel_rfl
theorem info34 : (Try.prog.info? 34).map (fun i => (i.zero, i.size, i.bytes)) = some (some (.agg #[.int .i64 0, .int .i64 0]), 2, 16) := by kernel_rfl

def inB (n0 n1 s0 s1 p0 p1 y x i j : Int) : Bool := decide (0 ≤ y * s0 + i - p0) && decide (y * s0 + i - p0 < n0) && decide (0 ≤ x * s1 + j - p1) && decide (x * s1 + j - p1 < n1)
/-- The taps among a kernel's first m places. -/
def tapsL (n0 n1 k1 s0 s1 p0 p1 y x : Int) (m : Nat) : List (Int × Int) := ((List.range m).map fun (n : Nat) => ((n : Int) / k1, (n : Int) % k1)).filter fun p => inB n0 n1 s0 s1 p0 p1 y x p.1 p.2
def flat (l : List (Int × Int)) : List Value := l.flatMap fun p => [.int .i64 p.1, .int .i64 p.2]
theorem tapsL_yes {n0 n1 k1 s0 s1 p0 p1 y x : Int} {m : Nat} (h : inB n0 n1 s0 s1 p0 p1 y x ((m : Int) / k1) ((m : Int) % k1) = true) : tapsL n0 n1 k1 s0 s1 p0 p1 y x (m + 1) = tapsL n0 n1 k1 s0 s1 p0 p1 y x m ++ [((m : Int) / k1, (m : Int) % k1)] := by
  simp [tapsL, List.range_succ, List.filter_cons, h]
theorem tapsL_no {n0 n1 k1 s0 s1 p0 p1 y x : Int} {m : Nat} (h : inB n0 n1 s0 s1 p0 p1 y x ((m : Int) / k1) ((m : Int) % k1) = false) : tapsL n0 n1 k1 s0 s1 p0 p1 y x (m + 1) = tapsL n0 n1 k1 s0 s1 p0 p1 y x m := by
  simp [tapsL, List.range_succ, List.filter_cons, h]
theorem tapsL_le {n0 n1 k1 s0 s1 p0 p1 y x : Int} {m : Nat} : (tapsL n0 n1 k1 s0 s1 p0 p1 y x m).length ≤ m := by
  unfold tapsL
  exact Nat.le_trans (List.length_filter_le _ _) (by simp)
theorem flat_snoc (l : List (Int × Int)) (a b : Int) : flat (l ++ [(a, b)]) = flat l ++ [.int .i64 a, .int .i64 b] := by simp [flat]
theorem flat_len (l : List (Int × Int)) : (flat l).length = l.length * 2 := by
  induction l with
  | nil => rfl
  | cons p l ih => simp [flat] at ih ⊢; omega
theorem ownsRow_below {W W' : World} {b : Nat} {e : TypeId} {z n : Nat} {v : Value} {xs : List Value} (h : W.ownsRow b e z v n xs) (hb : Below W.heap.size W W') : W'.ownsRow b e z v n xs := by
  refine ⟨h.1, h.2.imp id ?_⟩
  rintro ⟨g, cap, cur, h1, h2, h3, h4⟩
  exact ⟨g, cap, cur, h1, h2, blk_below h3 hb, h4⟩
theorem ownsRow_base {W : World} {b : Nat} {e : TypeId} {z n : Nat} {v : Value} {xs : List Value} (h : W.ownsRow b e z v n xs) : ∀ k, v.ownBlock = some k → b ≤ k := by
  intro k hk
  rcases h.2 with ⟨rfl, _⟩ | ⟨g, cap, cur, rfl, h2, _⟩
  · cases hk
  · have : g = k := by simpa [Value.ownBlock] using hk
    omega
theorem O4.grown {n0 n1 k0 k1 s0 s1 p0 p1 p2 p3 : Int} {w W W' : World} {row : Option Nat} (J : O4 n0 n1 k0 k1 s0 s1 p0 p1 p2 p3 w W) (hg : W.grownBy W' row) (hr : ∀ k, row = some k → w.heap.size + 4 ≤ k) : O4 n0 n1 k0 k1 s0 s1 p0 p1 p2 p3 w W' := by
  have hz := J.size
  have hne : ∀ k, k < w.heap.size + 4 → some k ≠ row := fun k hk e => by have := hr k e.symm; omega
  exact ⟨(hg.block _ (by omega) (hne _ (by omega))).trans J.b0, (hg.block _ (by omega) (hne _ (by omega))).trans J.b1, (hg.block _ (by omega) (hne _ (by omega))).trans J.b2, (hg.block _ (by omega) (hne _ (by omega))).trans J.b3, J.bel.grown hg (by omega) (fun k hk => by have := hr k hk; omega)⟩
theorem news2 {W : World} {g : Nat} {i j : Int} (h : W.heap[g]? = some (.cells #[.int .i64 i, .int .i64 j] 34 (0, 0))) : ∀ q u, [Value.int .i64 i, Value.int .i64 j][q]? = some u → W.cell? ((⟨g, 0, none⟩ : Addr).add q) = some u := by
  intro q u hq
  rw [Addr.add_mid]
  match q, hq with
  | 0, hq => exact (blk_cell h 0).trans hq
  | 1, hq => exact (blk_cell h 1).trans hq
  | q + 2, hq => simp at hq
/-- Taps have come back. -/
def TapsRet (l : List (Int × Int)) (w : World) (e : Ending) (w' : World) : Prop := ∃ v, e = .returned v ∧ w'.ownsRow w.heap.size 34 2 v l.length (flat l) ∧ Below w.heap.size w w'
theorem prodb {a b c d : Int} (ha : 0 ≤ a ∧ a ≤ c) (hb : 0 ≤ b ∧ b ≤ d) : 0 ≤ a * b ∧ a * b ≤ c * d := ⟨Int.mul_nonneg ha.1 hb.1, Int.mul_le_mul ha.2 hb.2 hb.1 (by omega)⟩
set_option maxHeartbeats 8000000 in
theorem refTaps (n0 n1 k0 k1 s0 s1 p0 p1 p2 p3 y x : Int) (w : World) (hB : (1 ≤ n0 ∧ n0 ≤ 64) ∧ (1 ≤ n1 ∧ n1 ≤ 64) ∧ (1 ≤ k0 ∧ k0 ≤ 8) ∧ (1 ≤ k1 ∧ k1 ≤ 8) ∧ (1 ≤ s0 ∧ s0 ≤ 8) ∧ (1 ≤ s1 ∧ s1 ≤ 8) ∧ (0 ≤ p0 ∧ p0 ≤ 8) ∧ (0 ≤ p1 ∧ p1 ≤ 8) ∧ (0 ≤ y ∧ y ≤ 1000) ∧ (0 ≤ x ∧ x ≤ 1000)) : Calls Try.prog 25 #[.agg #[.int .i64 n0, .int .i64 n1], .agg #[.int .i64 k0, .int .i64 k1], .agg #[.int .i64 s0, .int .i64 s1], .agg #[.int .i64 p0, .int .i64 p1, .int .i64 p2, .int .i64 p3], .int .i64 y, .int .i64 x] w (TapsRet (tapsL n0 n1 k1 s0 s1 p0 p1 y x (k0 * k1).toNat) w) := by
  have hk := prodb (a := k0) (b := k1) (c := 8) (d := 8) (by omega) (by omega)
  have hy := prodb (a := y) (b := s0) (c := 1000) (d := 8) (by omega) (by omega)
  have hx := prodb (a := x) (b := s1) (c := 1000) (d := 8) (by omega) (by omega)
  have HB := Lib.hid hB
  have HK := Lib.hid hk
  have HY := Lib.hid hy
  have HX := Lib.hid hx
  clear hB hk hy hx
  obtain ⟨i0, hi, hz0, hz1, hz2⟩ := info_parts info34
  have II := Lib.hid hi
  have IZ := Lib.hid (And.intro hz0 (And.intro hz1 hz2))
  clear hi hz0 hz1 hz2
  have J := Lib.hid (O4.start n0 n1 k0 k1 s0 s1 p0 p1 p2 p3 w)
  go_enter Try.func25, Try.ntmps25
  apply wp_seq_k
  intro K1 hK1
  have HK1 := Lib.hid hK1
  clear hK1
  go_wp2
  refine HK1.out _ _ ?_
  clear HK1
  generalize (((w.alloc (box2 n0 n1)).alloc (box2 k0 k1)).alloc (box2 s0 s1)).alloc (box4 p0 p1 p2 p3) = u0 at *
  replace J := J.out
  apply wp_seq_k
  intro K2 hK2
  have HK2 := Lib.hid hK2
  clear hK2
  refine wp_listed (R := fun W W' => Below W.heap.size W W') 2 [⟨fun v W => W.ownsRow (w.heap.size + 4) 34 2 v 0 [], fun _ _ _ h hb => ownsRow_below h hb⟩, ⟨fun v W => W.ownsRow (w.heap.size + 4) 34 2 v 0 [], fun _ _ _ h hb => ownsRow_below h hb⟩] (fun W => O4 n0 n1 k0 k1 s0 s1 p0 p1 p2 p3 w W) (by kernel_rfl) J ?_ ?_
  · intro vs W hG b hb
    have i19 : b.eval (.tmp 19) = vs 0 := (congrArg (fun x => Act.eval x (.tmp 19)) hb).trans ((fill_in _ 0 0 _ _ 19 (by kernel_rfl) rfl rfl (by simp)).trans (congrArg vs (Nat.zero_add _)))
    clear hb
    refine And.intro ?_ (And.intro ?_ (trivial))
    · intro hp K hK
      refine g_no rfl ?_
      exact st_buildSlice rfl (by first | (simp only [List.map_toArray, List.map_cons, List.map_nil, eval_const]; done) | (simp only [List.map_toArray, List.map_cons, List.map_nil, eval_const]; rfl)) (bs0 _) (hK _ _ ⟨rfl, .inr ⟨_, 0, #[], rfl, hG.size, blk_new _ _, Nat.le_refl _, Nat.zero_le _, rfl, rfl⟩⟩ (hG.alloc _) ((Below.refl _ _).alloc (Nat.le_refl _) _))
    · intro hp K hK
      refine g_no rfl ?_
      have q0 : W.ownsRow (w.heap.size + 4) 34 2 (vs 0) 0 [] := hp 0 (by kernel_rfl)
      have e19 := i19
      exact st_move (.inr rfl) (e19) (hK _ _ q0 hG (Below.refl _ _))
  intro vs W hG hp b hb
  have q0 : W.ownsRow (w.heap.size + 4) 34 2 (vs 0) 0 [] := hp 0 (by decide)
  have q1 : W.ownsRow (w.heap.size + 4) 34 2 (vs 1) 0 [] := hp 1 (by decide)
  clear hp
  simp only [fill, Act.put, List.append_eq, List.cons_append, List.nil_append, List.take_succ_cons, List.take_zero, List.setIfInBounds_toArray, List.set_cons_succ, List.set_cons_zero, Nat.reduceAdd, Nat.zero_add] at hb
  subst hb
  refine wpList_nil ?_
  clear J q0
  generalize hvs : vs 1 = v0 at *
  generalize vs 0 = v00 at *
  clear hvs vs
  have J := hG
  clear hG
  refine HK2.out _ _ ?_
  clear HK2
  apply wp_seq_k
  intro K3 hK3
  have HK3 := Lib.hid hK3
  clear hK3
  apply wp_seq_k
  intro K4 hK4
  have HK4 := Lib.hid hK4
  clear hK4
  go_wp2
  refine HK4.out _ _ ?_
  clear HK4
  apply wp_block
  refine wp_loopS [13, 14, 15, 16, 17, 18, 20, 21, 22, 23, 24, 25, 26, 27, 28, 29, 30, 31, 32, 33, 34, 35, 36, 37, 38, 39, 40, 41, 42, 43, 44, 45, 46, 47, 48, 49, 50, 51, 52, 53, 54, 55, 56, 57, 58, 59, 60, 61, 62, 63, 64, 65, 66, 67, 68, 69, 70, 71, 72, 73, 74, 75, 76, 77, 78] (fun sl W => ∃ m : Nat, sl 14 = .int .i64 (m : Int) ∧ (m : Int) ≤ k0 * k1 ∧ O4 n0 n1 k0 k1 s0 s1 p0 p1 p2 p3 w W ∧ W.ownsRow (w.heap.size + 4) 34 2 (sl 13) (tapsL n0 n1 k1 s0 s1 p0 p1 y x m).length (flat (tapsL n0 n1 k1 s0 s1 p0 p1 y x m))) (fun sl W => (k0 * k1 - intOf (sl 14)).toNat) ⟨0, rfl, HK.out.1, J, q1⟩ ?_
  intro vs W b hb hI
  obtain ⟨m, h14, hm, hG, hown⟩ := hI
  clear J q1
  simp only [setSlots, Act.put, List.setIfInBounds_toArray, List.set_cons_succ, List.set_cons_zero] at hb
  subst hb
  replace h14 : vs 14 = .int .i64 (m : Int) := h14
  generalize hv13 : vs 13 = v13 at *
  replace hown : W.ownsRow (w.heap.size + 4) 34 2 v13 (tapsL n0 n1 k1 s0 s1 p0 p1 y x m).length (flat (tapsL n0 n1 k1 s0 s1 p0 p1 y x m)) := hown
  clear hv13
  rw [h14]
  have hG : O4 n0 n1 k0 k1 s0 s1 p0 p1 p2 p3 w W ∧ W.ownsRow (w.heap.size + 4) 34 2 v13 (tapsL n0 n1 k1 s0 s1 p0 p1 y x m).length (flat (tapsL n0 n1 k1 s0 s1 p0 p1 y x m)) := ⟨hG, hown⟩
  clear hown h14
  apply wp_seq_k
  intro K5 hK5
  have HK5 := Lib.hid hK5
  clear hK5
  apply wp_seq_k
  intro K6 hK6
  have HK6 := Lib.hid hK6
  clear hK6
  refine wp_listed (R := fun W W' => Below W.heap.size W W') 7 [.val (.int .i64 (m : Int)), .val (.pointer (some ⟨w.heap.size + 1, 0, none⟩)), .val (.int .i64 k0), .val (.pointer (some ⟨w.heap.size + 1, 1, none⟩)), .val (.int .i64 k1), .val (.int .i64 (k0 * k1)), .val (.bool (decide ((m : Int) < (k0 * k1))))] (fun W => O4 n0 n1 k0 k1 s0 s1 p0 p1 p2 p3 w W ∧ W.ownsRow (w.heap.size + 4) 34 2 v13 (tapsL n0 n1 k1 s0 s1 p0 p1 y x m).length (flat (tapsL n0 n1 k1 s0 s1 p0 p1 y x m))) (by kernel_rfl) hG ?_ ?_
  · intro vs W hG b hb
    have e7 : b.eval (.tmp 7) = .pointer (some ⟨w.heap.size + 1, 0, none⟩) := (congrArg (fun x => Act.eval x (.tmp 7)) hb).trans ((fill_out _ 0 _ (by kernel_rfl)).trans rfl)
    have e14 : b.eval (.tmp 14) = .int .i64 (m : Int) := (congrArg (fun x => Act.eval x (.tmp 14)) hb).trans ((fill_out _ 0 _ (by kernel_rfl)).trans rfl)
    have i20 : b.eval (.tmp 20) = vs 0 := (congrArg (fun x => Act.eval x (.tmp 20)) hb).trans ((fill_in _ 0 0 _ _ 20 (by kernel_rfl) rfl rfl (by simp)).trans (congrArg vs (Nat.zero_add _)))
    have i21 : b.eval (.tmp 21) = vs 1 := (congrArg (fun x => Act.eval x (.tmp 21)) hb).trans ((fill_in _ 0 1 _ _ 21 (by kernel_rfl) rfl rfl (by simp)).trans (congrArg vs (Nat.zero_add _)))
    have i22 : b.eval (.tmp 22) = vs 2 := (congrArg (fun x => Act.eval x (.tmp 22)) hb).trans ((fill_in _ 0 2 _ _ 22 (by kernel_rfl) rfl rfl (by simp)).trans (congrArg vs (Nat.zero_add _)))
    have i23 : b.eval (.tmp 23) = vs 3 := (congrArg (fun x => Act.eval x (.tmp 23)) hb).trans ((fill_in _ 0 3 _ _ 23 (by kernel_rfl) rfl rfl (by simp)).trans (congrArg vs (Nat.zero_add _)))
    have i24 : b.eval (.tmp 24) = vs 4 := (congrArg (fun x => Act.eval x (.tmp 24)) hb).trans ((fill_in _ 0 4 _ _ 24 (by kernel_rfl) rfl rfl (by simp)).trans (congrArg vs (Nat.zero_add _)))
    have i25 : b.eval (.tmp 25) = vs 5 := (congrArg (fun x => Act.eval x (.tmp 25)) hb).trans ((fill_in _ 0 5 _ _ 25 (by kernel_rfl) rfl rfl (by simp)).trans (congrArg vs (Nat.zero_add _)))
    clear hb
    refine And.intro ?_ (And.intro ?_ (And.intro ?_ (And.intro ?_ (And.intro ?_ (And.intro ?_ (And.intro ?_ (trivial)))))))
    · intro hp K hK
      refine g_no rfl ?_
      exact st_move (.inl rfl) (e14) (hK _ _ rfl hG (Below.refl _ _))
    · intro hp K hK
      refine g_no rfl ?_
      exact st_index rfl (e7) (eval_const _) (by kernel_rfl) (hK _ _ rfl hG (Below.refl _ _))
    · intro hp K hK
      refine g_no rfl ?_
      have e21 : b.eval (.tmp 21) = .pointer (some ⟨w.heap.size + 1, 0, none⟩) := i21.trans (hp 1 (by kernel_rfl))
      exact st_load rfl (e21) (ld1 ((blk_cell hG.1.b1 0).trans rfl)) (hK _ _ rfl hG (Below.refl _ _))
    · intro hp K hK
      refine g_no rfl ?_
      exact st_index rfl (e7) (eval_const _) (by kernel_rfl) (hK _ _ rfl hG (Below.refl _ _))
    · intro hp K hK
      refine g_no rfl ?_
      have e23 : b.eval (.tmp 23) = .pointer (some ⟨w.heap.size + 1, 1, none⟩) := i23.trans (hp 3 (by kernel_rfl))
      exact st_load rfl (e23) (ld1 ((blk_cell hG.1.b1 1).trans rfl)) (hK _ _ rfl hG (Below.refl _ _))
    · intro hp K hK
      refine g_no rfl ?_
      have e22 : b.eval (.tmp 22) = .int .i64 k0 := i22.trans (hp 2 (by kernel_rfl))
      have e24 : b.eval (.tmp 24) = .int .i64 k1 := i24.trans (hp 4 (by kernel_rfl))
      have HB1 := HB.out
      have HK1 := HK.out
      have HY1 := HY.out
      have HX1 := HX.out
      exact st_bin rfl (e22) (e24) (b_mul (by first | rfl | exact IntWalk.i64_in _ (by omega))) (hK _ _ rfl hG (Below.refl _ _))
    · intro hp K hK
      refine g_no rfl ?_
      have e20 : b.eval (.tmp 20) = .int .i64 (m : Int) := i20.trans (hp 0 (by kernel_rfl))
      have e25 : b.eval (.tmp 25) = .int .i64 (k0 * k1) := i25.trans (hp 5 (by kernel_rfl))
      exact st_bin rfl (e20) (e25) b_lss (hK _ _ rfl hG (Below.refl _ _))
  intro vs W hG hp b hb
  have q6 : vs 6 = .bool (decide ((m : Int) < (k0 * k1))) := hp 6 (by decide)
  clear hp
  simp only [fill, Act.put, List.append_eq, List.cons_append, List.nil_append, List.take_succ_cons, List.take_zero, List.setIfInBounds_toArray, List.set_cons_succ, List.set_cons_zero, Nat.reduceAdd, Nat.zero_add, q6] at hb
  subst hb
  refine wpList_nil ?_
  clear q6
  refine HK6.out _ _ ?_
  clear HK6
  have hG := Lib.hid hG
  go_wp2
  rotate_left
  · have hlt : ¬ (m : Int) < k0 * k1 := by first | assumption | (have h' : k0 * k1 ≤ (m : Int) := by assumption) <;> omega
    have hme : m = (k0 * k1).toNat := by omega
    subst hme
    refine HK3.out _ _ ?_
    clear HK3
    go_wp2
    go_ret
    exact ⟨_, rfl, ⟨hG.out.2.1, hG.out.2.2.imp id (fun ⟨g, cap, cur, h1, h2, h3⟩ => ⟨g, cap, cur, h1, by omega, h3⟩)⟩, hG.out.1.bel⟩
  have hlt : (m : Int) < k0 * k1 := by assumption
  replace hG := hG.out
  refine HK5.out _ _ ?_
  clear HK5
  apply wp_seq_k
  intro K7 hK7
  have HK7 := Lib.hid hK7
  clear hK7
  apply wp_block
  apply wp_seq_k
  intro K8 hK8
  have HK8 := Lib.hid hK8
  clear hK8
  refine wp_drawn (R := fun W W' => Below W.heap.size W W') 10 [.val (.int .i64 (m : Int)), .val (.pointer (some ⟨w.heap.size + 1, 1, none⟩)), .val (.int .i64 k1), .val (.int .i64 ((m : Int) / k1)), .val (.int .i64 (m : Int)), .val (.pointer (some ⟨w.heap.size + 1, 1, none⟩)), .val (.int .i64 k1), .val (.int .i64 ((m : Int) % k1)), .val (.int .i64 ((m : Int) / k1)), .val (.int .i64 ((m : Int) % k1))] (fun W => O4 n0 n1 k0 k1 s0 s1 p0 p1 p2 p3 w W ∧ W.ownsRow (w.heap.size + 4) 34 2 v13 (tapsL n0 n1 k1 s0 s1 p0 p1 y x m).length (flat (tapsL n0 n1 k1 s0 s1 p0 p1 y x m))) rfl (by kernel_rfl) ⟨hG.1.drew, hG.2⟩ ?_ ?_
  · intro vs W hG b hb
    have e7 : b.eval (.tmp 7) = .pointer (some ⟨w.heap.size + 1, 0, none⟩) := (congrArg (fun x => Act.eval x (.tmp 7)) hb).trans ((fill_out _ 0 _ (by kernel_rfl)).trans rfl)
    have e14 : b.eval (.tmp 14) = .int .i64 (m : Int) := (congrArg (fun x => Act.eval x (.tmp 14)) hb).trans ((fill_out _ 0 _ (by kernel_rfl)).trans rfl)
    have i29 : b.eval (.tmp 29) = vs 0 := (congrArg (fun x => Act.eval x (.tmp 29)) hb).trans ((fill_in _ 0 0 _ _ 29 (by kernel_rfl) rfl rfl (by simp)).trans (congrArg vs (Nat.zero_add _)))
    have i30 : b.eval (.tmp 30) = vs 1 := (congrArg (fun x => Act.eval x (.tmp 30)) hb).trans ((fill_in _ 0 1 _ _ 30 (by kernel_rfl) rfl rfl (by simp)).trans (congrArg vs (Nat.zero_add _)))
    have i31 : b.eval (.tmp 31) = vs 2 := (congrArg (fun x => Act.eval x (.tmp 31)) hb).trans ((fill_in _ 0 2 _ _ 31 (by kernel_rfl) rfl rfl (by simp)).trans (congrArg vs (Nat.zero_add _)))
    have i32 : b.eval (.tmp 32) = vs 3 := (congrArg (fun x => Act.eval x (.tmp 32)) hb).trans ((fill_in _ 0 3 _ _ 32 (by kernel_rfl) rfl rfl (by simp)).trans (congrArg vs (Nat.zero_add _)))
    have i33 : b.eval (.tmp 33) = vs 4 := (congrArg (fun x => Act.eval x (.tmp 33)) hb).trans ((fill_in _ 0 4 _ _ 33 (by kernel_rfl) rfl rfl (by simp)).trans (congrArg vs (Nat.zero_add _)))
    have i34 : b.eval (.tmp 34) = vs 5 := (congrArg (fun x => Act.eval x (.tmp 34)) hb).trans ((fill_in _ 0 5 _ _ 34 (by kernel_rfl) rfl rfl (by simp)).trans (congrArg vs (Nat.zero_add _)))
    have i35 : b.eval (.tmp 35) = vs 6 := (congrArg (fun x => Act.eval x (.tmp 35)) hb).trans ((fill_in _ 0 6 _ _ 35 (by kernel_rfl) rfl rfl (by simp)).trans (congrArg vs (Nat.zero_add _)))
    have i36 : b.eval (.tmp 36) = vs 7 := (congrArg (fun x => Act.eval x (.tmp 36)) hb).trans ((fill_in _ 0 7 _ _ 36 (by kernel_rfl) rfl rfl (by simp)).trans (congrArg vs (Nat.zero_add _)))
    clear hb
    refine And.intro ?_ (And.intro ?_ (And.intro ?_ (And.intro ?_ (And.intro ?_ (And.intro ?_ (And.intro ?_ (And.intro ?_ (And.intro ?_ (And.intro ?_ (trivial))))))))))
    · intro hp K hK
      refine g_no rfl ?_
      exact st_move (.inl rfl) (e14) (hK _ _ rfl hG (Below.refl _ _))
    · intro hp K hK
      refine g_no rfl ?_
      exact st_index rfl (e7) (eval_const _) (by kernel_rfl) (hK _ _ rfl hG (Below.refl _ _))
    · intro hp K hK
      refine g_no rfl ?_
      have e30 : b.eval (.tmp 30) = .pointer (some ⟨w.heap.size + 1, 1, none⟩) := i30.trans (hp 1 (by kernel_rfl))
      exact st_load rfl (e30) (ld1 ((blk_cell hG.1.b1 1).trans rfl)) (hK _ _ rfl hG (Below.refl _ _))
    · intro hp K hK
      refine g_no rfl ?_
      have e29 : b.eval (.tmp 29) = .int .i64 (m : Int) := i29.trans (hp 0 (by kernel_rfl))
      have e31 : b.eval (.tmp 31) = .int .i64 k1 := i31.trans (hp 2 (by kernel_rfl))
      have HB1 := HB.out
      have HK1 := HK.out
      have HY1 := HY.out
      have HX1 := HX.out
      exact st_bin rfl (e29) (e31) (b_quo (by omega) (IntWalk.i64_quo _ _ ⟨by omega, by omega, by omega⟩)) (hK _ _ rfl hG (Below.refl _ _))
    · intro hp K hK
      refine g_no rfl ?_
      exact st_move (.inl rfl) (e14) (hK _ _ rfl hG (Below.refl _ _))
    · intro hp K hK
      refine g_no rfl ?_
      exact st_index rfl (e7) (eval_const _) (by kernel_rfl) (hK _ _ rfl hG (Below.refl _ _))
    · intro hp K hK
      refine g_no rfl ?_
      have e34 : b.eval (.tmp 34) = .pointer (some ⟨w.heap.size + 1, 1, none⟩) := i34.trans (hp 5 (by kernel_rfl))
      exact st_load rfl (e34) (ld1 ((blk_cell hG.1.b1 1).trans rfl)) (hK _ _ rfl hG (Below.refl _ _))
    · intro hp K hK
      refine g_no rfl ?_
      have e33 : b.eval (.tmp 33) = .int .i64 (m : Int) := i33.trans (hp 4 (by kernel_rfl))
      have e35 : b.eval (.tmp 35) = .int .i64 k1 := i35.trans (hp 6 (by kernel_rfl))
      have HB1 := HB.out
      have HK1 := HK.out
      have HY1 := HY.out
      have HX1 := HX.out
      exact st_bin rfl (e33) (e35) (b_rem (by omega) (Int.tmod_eq_emod_of_nonneg (by omega))) (hK _ _ rfl hG (Below.refl _ _))
    · intro hp K hK
      refine g_no rfl ?_
      have e32 : b.eval (.tmp 32) = .int .i64 ((m : Int) / k1) := i32.trans (hp 3 (by kernel_rfl))
      exact st_move (.inr rfl) (e32) (hK _ _ rfl hG (Below.refl _ _))
    · intro hp K hK
      refine g_no rfl ?_
      have e36 : b.eval (.tmp 36) = .int .i64 ((m : Int) % k1) := i36.trans (hp 7 (by kernel_rfl))
      exact st_move (.inr rfl) (e36) (hK _ _ rfl hG (Below.refl _ _))
  intro vs W hG hp b hb
  have q8 : vs 8 = .int .i64 ((m : Int) / k1) := hp 8 (by decide)
  have q9 : vs 9 = .int .i64 ((m : Int) % k1) := hp 9 (by decide)
  clear hp
  simp only [fill, Act.put, List.append_eq, List.cons_append, List.nil_append, List.take_succ_cons, List.take_zero, List.setIfInBounds_toArray, List.set_cons_succ, List.set_cons_zero, Nat.reduceAdd, Nat.zero_add, q8, q9] at hb
  subst hb
  refine wpList_nil ?_
  clear q8 q9
  refine HK8.out _ _ ?_
  clear HK8
  apply wp_seq_k
  intro K9 hK9
  have HK9 := Lib.hid hK9
  clear hK9
  refine wp_drawn (R := fun W W' => Below W.heap.size W W') 20 [.val (.int .i64 y), .val (.pointer (some ⟨w.heap.size + 1 + 1, 0, none⟩)), .val (.int .i64 s0), .val (.int .i64 (y * s0)), .val (.int .i64 ((m : Int) / k1)), .val (.int .i64 (y * s0 + ((m : Int) / k1))), .val (.pointer (some ⟨w.heap.size + 1 + 1 + 1, 0, none⟩)), .val (.int .i64 p0), .val (.int .i64 ((y * s0 + ((m : Int) / k1) - p0))), .val (.int .i64 x), .val (.pointer (some ⟨w.heap.size + 1 + 1, 1, none⟩)), .val (.int .i64 s1), .val (.int .i64 (x * s1)), .val (.int .i64 ((m : Int) % k1)), .val (.int .i64 (x * s1 + ((m : Int) % k1))), .val (.pointer (some ⟨w.heap.size + 1 + 1 + 1, 1, none⟩)), .val (.int .i64 p1), .val (.int .i64 ((x * s1 + ((m : Int) % k1) - p1))), .val (.int .i64 ((y * s0 + ((m : Int) / k1) - p0))), .val (.int .i64 ((x * s1 + ((m : Int) % k1) - p1)))] (fun W => O4 n0 n1 k0 k1 s0 s1 p0 p1 p2 p3 w W ∧ W.ownsRow (w.heap.size + 4) 34 2 v13 (tapsL n0 n1 k1 s0 s1 p0 p1 y x m).length (flat (tapsL n0 n1 k1 s0 s1 p0 p1 y x m))) rfl (by kernel_rfl) ⟨hG.1.drew, hG.2⟩ ?_ ?_
  · intro vs W hG b hb
    have e4 : b.eval (.tmp 4) = .int .i64 y := (congrArg (fun x => Act.eval x (.tmp 4)) hb).trans ((fill_out _ 0 _ (by kernel_rfl)).trans rfl)
    have e5 : b.eval (.tmp 5) = .int .i64 x := (congrArg (fun x => Act.eval x (.tmp 5)) hb).trans ((fill_out _ 0 _ (by kernel_rfl)).trans rfl)
    have e8 : b.eval (.tmp 8) = .pointer (some ⟨w.heap.size + 1 + 1, 0, none⟩) := (congrArg (fun x => Act.eval x (.tmp 8)) hb).trans ((fill_out _ 0 _ (by kernel_rfl)).trans rfl)
    have e9 : b.eval (.tmp 9) = .pointer (some ⟨w.heap.size + 1 + 1 + 1, 0, none⟩) := (congrArg (fun x => Act.eval x (.tmp 9)) hb).trans ((fill_out _ 0 _ (by kernel_rfl)).trans rfl)
    have e15 : b.eval (.tmp 15) = .int .i64 ((m : Int) / k1) := (congrArg (fun x => Act.eval x (.tmp 15)) hb).trans ((fill_out _ 0 _ (by kernel_rfl)).trans rfl)
    have e16 : b.eval (.tmp 16) = .int .i64 ((m : Int) % k1) := (congrArg (fun x => Act.eval x (.tmp 16)) hb).trans ((fill_out _ 0 _ (by kernel_rfl)).trans rfl)
    have i37 : b.eval (.tmp 37) = vs 0 := (congrArg (fun x => Act.eval x (.tmp 37)) hb).trans ((fill_in _ 0 0 _ _ 37 (by kernel_rfl) rfl rfl (by simp)).trans (congrArg vs (Nat.zero_add _)))
    have i38 : b.eval (.tmp 38) = vs 1 := (congrArg (fun x => Act.eval x (.tmp 38)) hb).trans ((fill_in _ 0 1 _ _ 38 (by kernel_rfl) rfl rfl (by simp)).trans (congrArg vs (Nat.zero_add _)))
    have i39 : b.eval (.tmp 39) = vs 2 := (congrArg (fun x => Act.eval x (.tmp 39)) hb).trans ((fill_in _ 0 2 _ _ 39 (by kernel_rfl) rfl rfl (by simp)).trans (congrArg vs (Nat.zero_add _)))
    have i40 : b.eval (.tmp 40) = vs 3 := (congrArg (fun x => Act.eval x (.tmp 40)) hb).trans ((fill_in _ 0 3 _ _ 40 (by kernel_rfl) rfl rfl (by simp)).trans (congrArg vs (Nat.zero_add _)))
    have i41 : b.eval (.tmp 41) = vs 4 := (congrArg (fun x => Act.eval x (.tmp 41)) hb).trans ((fill_in _ 0 4 _ _ 41 (by kernel_rfl) rfl rfl (by simp)).trans (congrArg vs (Nat.zero_add _)))
    have i42 : b.eval (.tmp 42) = vs 5 := (congrArg (fun x => Act.eval x (.tmp 42)) hb).trans ((fill_in _ 0 5 _ _ 42 (by kernel_rfl) rfl rfl (by simp)).trans (congrArg vs (Nat.zero_add _)))
    have i43 : b.eval (.tmp 43) = vs 6 := (congrArg (fun x => Act.eval x (.tmp 43)) hb).trans ((fill_in _ 0 6 _ _ 43 (by kernel_rfl) rfl rfl (by simp)).trans (congrArg vs (Nat.zero_add _)))
    have i44 : b.eval (.tmp 44) = vs 7 := (congrArg (fun x => Act.eval x (.tmp 44)) hb).trans ((fill_in _ 0 7 _ _ 44 (by kernel_rfl) rfl rfl (by simp)).trans (congrArg vs (Nat.zero_add _)))
    have i45 : b.eval (.tmp 45) = vs 8 := (congrArg (fun x => Act.eval x (.tmp 45)) hb).trans ((fill_in _ 0 8 _ _ 45 (by kernel_rfl) rfl rfl (by simp)).trans (congrArg vs (Nat.zero_add _)))
    have i46 : b.eval (.tmp 46) = vs 9 := (congrArg (fun x => Act.eval x (.tmp 46)) hb).trans ((fill_in _ 0 9 _ _ 46 (by kernel_rfl) rfl rfl (by simp)).trans (congrArg vs (Nat.zero_add _)))
    have i47 : b.eval (.tmp 47) = vs 10 := (congrArg (fun x => Act.eval x (.tmp 47)) hb).trans ((fill_in _ 0 10 _ _ 47 (by kernel_rfl) rfl rfl (by simp)).trans (congrArg vs (Nat.zero_add _)))
    have i48 : b.eval (.tmp 48) = vs 11 := (congrArg (fun x => Act.eval x (.tmp 48)) hb).trans ((fill_in _ 0 11 _ _ 48 (by kernel_rfl) rfl rfl (by simp)).trans (congrArg vs (Nat.zero_add _)))
    have i49 : b.eval (.tmp 49) = vs 12 := (congrArg (fun x => Act.eval x (.tmp 49)) hb).trans ((fill_in _ 0 12 _ _ 49 (by kernel_rfl) rfl rfl (by simp)).trans (congrArg vs (Nat.zero_add _)))
    have i50 : b.eval (.tmp 50) = vs 13 := (congrArg (fun x => Act.eval x (.tmp 50)) hb).trans ((fill_in _ 0 13 _ _ 50 (by kernel_rfl) rfl rfl (by simp)).trans (congrArg vs (Nat.zero_add _)))
    have i51 : b.eval (.tmp 51) = vs 14 := (congrArg (fun x => Act.eval x (.tmp 51)) hb).trans ((fill_in _ 0 14 _ _ 51 (by kernel_rfl) rfl rfl (by simp)).trans (congrArg vs (Nat.zero_add _)))
    have i52 : b.eval (.tmp 52) = vs 15 := (congrArg (fun x => Act.eval x (.tmp 52)) hb).trans ((fill_in _ 0 15 _ _ 52 (by kernel_rfl) rfl rfl (by simp)).trans (congrArg vs (Nat.zero_add _)))
    have i53 : b.eval (.tmp 53) = vs 16 := (congrArg (fun x => Act.eval x (.tmp 53)) hb).trans ((fill_in _ 0 16 _ _ 53 (by kernel_rfl) rfl rfl (by simp)).trans (congrArg vs (Nat.zero_add _)))
    have i54 : b.eval (.tmp 54) = vs 17 := (congrArg (fun x => Act.eval x (.tmp 54)) hb).trans ((fill_in _ 0 17 _ _ 54 (by kernel_rfl) rfl rfl (by simp)).trans (congrArg vs (Nat.zero_add _)))
    clear hb
    refine And.intro ?_ (And.intro ?_ (And.intro ?_ (And.intro ?_ (And.intro ?_ (And.intro ?_ (And.intro ?_ (And.intro ?_ (And.intro ?_ (And.intro ?_ (And.intro ?_ (And.intro ?_ (And.intro ?_ (And.intro ?_ (And.intro ?_ (And.intro ?_ (And.intro ?_ (And.intro ?_ (And.intro ?_ (And.intro ?_ (trivial))))))))))))))))))))
    · intro hp K hK
      refine g_no rfl ?_
      exact st_move (.inl rfl) (e4) (hK _ _ rfl hG (Below.refl _ _))
    · intro hp K hK
      refine g_no rfl ?_
      exact st_index rfl (e8) (eval_const _) (by kernel_rfl) (hK _ _ rfl hG (Below.refl _ _))
    · intro hp K hK
      refine g_no rfl ?_
      have e38 : b.eval (.tmp 38) = .pointer (some ⟨w.heap.size + 1 + 1, 0, none⟩) := i38.trans (hp 1 (by kernel_rfl))
      exact st_load rfl (e38) (ld1 ((blk_cell hG.1.b2 0).trans rfl)) (hK _ _ rfl hG (Below.refl _ _))
    · intro hp K hK
      refine g_no rfl ?_
      have e37 : b.eval (.tmp 37) = .int .i64 y := i37.trans (hp 0 (by kernel_rfl))
      have e39 : b.eval (.tmp 39) = .int .i64 s0 := i39.trans (hp 2 (by kernel_rfl))
      have HB1 := HB.out
      have HK1 := HK.out
      have HY1 := HY.out
      have HX1 := HX.out
      have hD0 : 0 ≤ (m : Int) / k1 := Int.ediv_nonneg (by omega) (by omega)
      have hD1 : (m : Int) / k1 ≤ (m : Int) := Int.ediv_le_self _ (by omega)
      have hM0 : 0 ≤ (m : Int) % k1 := Int.emod_nonneg _ (by omega)
      have hM1 : (m : Int) % k1 < k1 := Int.emod_lt_of_pos _ (by omega)
      exact st_bin rfl (e37) (e39) (b_mul (by first | rfl | exact IntWalk.i64_in _ (by omega))) (hK _ _ rfl hG (Below.refl _ _))
    · intro hp K hK
      refine g_no rfl ?_
      exact st_move (.inl rfl) (e15) (hK _ _ rfl hG (Below.refl _ _))
    · intro hp K hK
      refine g_no rfl ?_
      have e40 : b.eval (.tmp 40) = .int .i64 (y * s0) := i40.trans (hp 3 (by kernel_rfl))
      have e41 : b.eval (.tmp 41) = .int .i64 ((m : Int) / k1) := i41.trans (hp 4 (by kernel_rfl))
      have HB1 := HB.out
      have HK1 := HK.out
      have HY1 := HY.out
      have HX1 := HX.out
      have hD0 : 0 ≤ (m : Int) / k1 := Int.ediv_nonneg (by omega) (by omega)
      have hD1 : (m : Int) / k1 ≤ (m : Int) := Int.ediv_le_self _ (by omega)
      have hM0 : 0 ≤ (m : Int) % k1 := Int.emod_nonneg _ (by omega)
      have hM1 : (m : Int) % k1 < k1 := Int.emod_lt_of_pos _ (by omega)
      exact st_bin rfl (e40) (e41) (b_add (by first | rfl | exact IntWalk.i64_in _ (by omega))) (hK _ _ rfl hG (Below.refl _ _))
    · intro hp K hK
      refine g_no rfl ?_
      exact st_index rfl (e9) (eval_const _) (by kernel_rfl) (hK _ _ rfl hG (Below.refl _ _))
    · intro hp K hK
      refine g_no rfl ?_
      have e43 : b.eval (.tmp 43) = .pointer (some ⟨w.heap.size + 1 + 1 + 1, 0, none⟩) := i43.trans (hp 6 (by kernel_rfl))
      exact st_load rfl (e43) (ld1 ((blk_cell hG.1.b3 0).trans rfl)) (hK _ _ rfl hG (Below.refl _ _))
    · intro hp K hK
      refine g_no rfl ?_
      have e42 : b.eval (.tmp 42) = .int .i64 (y * s0 + ((m : Int) / k1)) := i42.trans (hp 5 (by kernel_rfl))
      have e44 : b.eval (.tmp 44) = .int .i64 p0 := i44.trans (hp 7 (by kernel_rfl))
      have HB1 := HB.out
      have HK1 := HK.out
      have HY1 := HY.out
      have HX1 := HX.out
      have hD0 : 0 ≤ (m : Int) / k1 := Int.ediv_nonneg (by omega) (by omega)
      have hD1 : (m : Int) / k1 ≤ (m : Int) := Int.ediv_le_self _ (by omega)
      have hM0 : 0 ≤ (m : Int) % k1 := Int.emod_nonneg _ (by omega)
      have hM1 : (m : Int) % k1 < k1 := Int.emod_lt_of_pos _ (by omega)
      exact st_bin rfl (e42) (e44) (b_sub (by first | rfl | exact IntWalk.i64_in _ (by omega))) (hK _ _ rfl hG (Below.refl _ _))
    · intro hp K hK
      refine g_no rfl ?_
      exact st_move (.inl rfl) (e5) (hK _ _ rfl hG (Below.refl _ _))
    · intro hp K hK
      refine g_no rfl ?_
      exact st_index rfl (e8) (eval_const _) (by kernel_rfl) (hK _ _ rfl hG (Below.refl _ _))
    · intro hp K hK
      refine g_no rfl ?_
      have e47 : b.eval (.tmp 47) = .pointer (some ⟨w.heap.size + 1 + 1, 1, none⟩) := i47.trans (hp 10 (by kernel_rfl))
      exact st_load rfl (e47) (ld1 ((blk_cell hG.1.b2 1).trans rfl)) (hK _ _ rfl hG (Below.refl _ _))
    · intro hp K hK
      refine g_no rfl ?_
      have e46 : b.eval (.tmp 46) = .int .i64 x := i46.trans (hp 9 (by kernel_rfl))
      have e48 : b.eval (.tmp 48) = .int .i64 s1 := i48.trans (hp 11 (by kernel_rfl))
      have HB1 := HB.out
      have HK1 := HK.out
      have HY1 := HY.out
      have HX1 := HX.out
      have hD0 : 0 ≤ (m : Int) / k1 := Int.ediv_nonneg (by omega) (by omega)
      have hD1 : (m : Int) / k1 ≤ (m : Int) := Int.ediv_le_self _ (by omega)
      have hM0 : 0 ≤ (m : Int) % k1 := Int.emod_nonneg _ (by omega)
      have hM1 : (m : Int) % k1 < k1 := Int.emod_lt_of_pos _ (by omega)
      exact st_bin rfl (e46) (e48) (b_mul (by first | rfl | exact IntWalk.i64_in _ (by omega))) (hK _ _ rfl hG (Below.refl _ _))
    · intro hp K hK
      refine g_no rfl ?_
      exact st_move (.inl rfl) (e16) (hK _ _ rfl hG (Below.refl _ _))
    · intro hp K hK
      refine g_no rfl ?_
      have e49 : b.eval (.tmp 49) = .int .i64 (x * s1) := i49.trans (hp 12 (by kernel_rfl))
      have e50 : b.eval (.tmp 50) = .int .i64 ((m : Int) % k1) := i50.trans (hp 13 (by kernel_rfl))
      have HB1 := HB.out
      have HK1 := HK.out
      have HY1 := HY.out
      have HX1 := HX.out
      have hD0 : 0 ≤ (m : Int) / k1 := Int.ediv_nonneg (by omega) (by omega)
      have hD1 : (m : Int) / k1 ≤ (m : Int) := Int.ediv_le_self _ (by omega)
      have hM0 : 0 ≤ (m : Int) % k1 := Int.emod_nonneg _ (by omega)
      have hM1 : (m : Int) % k1 < k1 := Int.emod_lt_of_pos _ (by omega)
      exact st_bin rfl (e49) (e50) (b_add (by first | rfl | exact IntWalk.i64_in _ (by omega))) (hK _ _ rfl hG (Below.refl _ _))
    · intro hp K hK
      refine g_no rfl ?_
      exact st_index rfl (e9) (eval_const _) (by kernel_rfl) (hK _ _ rfl hG (Below.refl _ _))
    · intro hp K hK
      refine g_no rfl ?_
      have e52 : b.eval (.tmp 52) = .pointer (some ⟨w.heap.size + 1 + 1 + 1, 1, none⟩) := i52.trans (hp 15 (by kernel_rfl))
      exact st_load rfl (e52) (ld1 ((blk_cell hG.1.b3 1).trans rfl)) (hK _ _ rfl hG (Below.refl _ _))
    · intro hp K hK
      refine g_no rfl ?_
      have e51 : b.eval (.tmp 51) = .int .i64 (x * s1 + ((m : Int) % k1)) := i51.trans (hp 14 (by kernel_rfl))
      have e53 : b.eval (.tmp 53) = .int .i64 p1 := i53.trans (hp 16 (by kernel_rfl))
      have HB1 := HB.out
      have HK1 := HK.out
      have HY1 := HY.out
      have HX1 := HX.out
      have hD0 : 0 ≤ (m : Int) / k1 := Int.ediv_nonneg (by omega) (by omega)
      have hD1 : (m : Int) / k1 ≤ (m : Int) := Int.ediv_le_self _ (by omega)
      have hM0 : 0 ≤ (m : Int) % k1 := Int.emod_nonneg _ (by omega)
      have hM1 : (m : Int) % k1 < k1 := Int.emod_lt_of_pos _ (by omega)
      exact st_bin rfl (e51) (e53) (b_sub (by first | rfl | exact IntWalk.i64_in _ (by omega))) (hK _ _ rfl hG (Below.refl _ _))
    · intro hp K hK
      refine g_no rfl ?_
      have e45 : b.eval (.tmp 45) = .int .i64 ((y * s0 + ((m : Int) / k1) - p0)) := i45.trans (hp 8 (by kernel_rfl))
      exact st_move (.inr rfl) (e45) (hK _ _ rfl hG (Below.refl _ _))
    · intro hp K hK
      refine g_no rfl ?_
      have e54 : b.eval (.tmp 54) = .int .i64 ((x * s1 + ((m : Int) % k1) - p1)) := i54.trans (hp 17 (by kernel_rfl))
      exact st_move (.inr rfl) (e54) (hK _ _ rfl hG (Below.refl _ _))
  intro vs W hG hp b hb
  have q18 : vs 18 = .int .i64 ((y * s0 + ((m : Int) / k1) - p0)) := hp 18 (by decide)
  have q19 : vs 19 = .int .i64 ((x * s1 + ((m : Int) % k1) - p1)) := hp 19 (by decide)
  clear hp
  simp only [fill, Act.put, List.append_eq, List.cons_append, List.nil_append, List.take_succ_cons, List.take_zero, List.setIfInBounds_toArray, List.set_cons_succ, List.set_cons_zero, Nat.reduceAdd, Nat.zero_add, q18, q19] at hb
  subst hb
  refine wpList_nil ?_
  clear q18 q19
  refine HK9.out _ _ ?_
  clear HK9
  apply wp_seq_k
  intro K10 hK10
  have HK10 := Lib.hid hK10
  clear hK10
  refine wp_listed (R := fun W W' => Below W.heap.size W W') 18 [.val (.int .i64 (y * s0 + ((m : Int) / k1) - p0)), .val (.bool (decide (0 ≤ (y * s0 + ((m : Int) / k1) - p0)))), .val (.bool (decide (0 ≤ (y * s0 + ((m : Int) / k1) - p0)))), .val ((bif ((decide (0 ≤ (y * s0 + ((m : Int) / k1) - p0))) == true) then (.int .i64 (y * s0 + ((m : Int) / k1) - p0)) else undef)), .val ((bif ((decide (0 ≤ (y * s0 + ((m : Int) / k1) - p0))) == true) then (.pointer (some ⟨w.heap.size, 0, none⟩)) else undef)), .val ((bif ((decide (0 ≤ (y * s0 + ((m : Int) / k1) - p0))) == true) then (.int .i64 n0) else undef)), .val ((bif ((decide (0 ≤ (y * s0 + ((m : Int) / k1) - p0))) == true) then (.bool (decide ((y * s0 + ((m : Int) / k1) - p0) < n0))) else undef)), .val (.bool ((decide (0 ≤ (y * s0 + ((m : Int) / k1) - p0))) && (decide ((y * s0 + ((m : Int) / k1) - p0) < n0)))), .val (.bool ((decide (0 ≤ (y * s0 + ((m : Int) / k1) - p0))) && (decide ((y * s0 + ((m : Int) / k1) - p0) < n0)))), .val ((bif (((decide (0 ≤ (y * s0 + ((m : Int) / k1) - p0))) && (decide ((y * s0 + ((m : Int) / k1) - p0) < n0))) == true) then (.int .i64 (x * s1 + ((m : Int) % k1) - p1)) else undef)), .val ((bif (((decide (0 ≤ (y * s0 + ((m : Int) / k1) - p0))) && (decide ((y * s0 + ((m : Int) / k1) - p0) < n0))) == true) then (.bool (decide (0 ≤ (x * s1 + ((m : Int) % k1) - p1)))) else undef)), .val (.bool (((decide (0 ≤ (y * s0 + ((m : Int) / k1) - p0))) && (decide ((y * s0 + ((m : Int) / k1) - p0) < n0))) && (decide (0 ≤ (x * s1 + ((m : Int) % k1) - p1))))), .val (.bool (((decide (0 ≤ (y * s0 + ((m : Int) / k1) - p0))) && (decide ((y * s0 + ((m : Int) / k1) - p0) < n0))) && (decide (0 ≤ (x * s1 + ((m : Int) % k1) - p1))))), .val ((bif ((((decide (0 ≤ (y * s0 + ((m : Int) / k1) - p0))) && (decide ((y * s0 + ((m : Int) / k1) - p0) < n0))) && (decide (0 ≤ (x * s1 + ((m : Int) % k1) - p1)))) == true) then (.int .i64 (x * s1 + ((m : Int) % k1) - p1)) else undef)), .val ((bif ((((decide (0 ≤ (y * s0 + ((m : Int) / k1) - p0))) && (decide ((y * s0 + ((m : Int) / k1) - p0) < n0))) && (decide (0 ≤ (x * s1 + ((m : Int) % k1) - p1)))) == true) then (.pointer (some ⟨w.heap.size, 1, none⟩)) else undef)), .val ((bif ((((decide (0 ≤ (y * s0 + ((m : Int) / k1) - p0))) && (decide ((y * s0 + ((m : Int) / k1) - p0) < n0))) && (decide (0 ≤ (x * s1 + ((m : Int) % k1) - p1)))) == true) then (.int .i64 n1) else undef)), .val ((bif ((((decide (0 ≤ (y * s0 + ((m : Int) / k1) - p0))) && (decide ((y * s0 + ((m : Int) / k1) - p0) < n0))) && (decide (0 ≤ (x * s1 + ((m : Int) % k1) - p1)))) == true) then (.bool (decide ((x * s1 + ((m : Int) % k1) - p1) < n1))) else undef)), .val (.bool (inB n0 n1 s0 s1 p0 p1 y x ((m : Int) / k1) ((m : Int) % k1)))] (fun W => O4 n0 n1 k0 k1 s0 s1 p0 p1 p2 p3 w W ∧ W.ownsRow (w.heap.size + 4) 34 2 v13 (tapsL n0 n1 k1 s0 s1 p0 p1 y x m).length (flat (tapsL n0 n1 k1 s0 s1 p0 p1 y x m))) (by kernel_rfl) hG ?_ ?_
  · intro vs W hG b hb
    have e6 : b.eval (.tmp 6) = .pointer (some ⟨w.heap.size, 0, none⟩) := (congrArg (fun x => Act.eval x (.tmp 6)) hb).trans ((fill_out _ 0 _ (by kernel_rfl)).trans rfl)
    have e17 : b.eval (.tmp 17) = .int .i64 (y * s0 + ((m : Int) / k1) - p0) := (congrArg (fun x => Act.eval x (.tmp 17)) hb).trans ((fill_out _ 0 _ (by kernel_rfl)).trans rfl)
    have e18 : b.eval (.tmp 18) = .int .i64 (x * s1 + ((m : Int) % k1) - p1) := (congrArg (fun x => Act.eval x (.tmp 18)) hb).trans ((fill_out _ 0 _ (by kernel_rfl)).trans rfl)
    have i55 : b.eval (.tmp 55) = vs 0 := (congrArg (fun x => Act.eval x (.tmp 55)) hb).trans ((fill_in _ 0 0 _ _ 55 (by kernel_rfl) rfl rfl (by simp)).trans (congrArg vs (Nat.zero_add _)))
    have i56 : b.eval (.tmp 56) = vs 1 := (congrArg (fun x => Act.eval x (.tmp 56)) hb).trans ((fill_in _ 0 1 _ _ 56 (by kernel_rfl) rfl rfl (by simp)).trans (congrArg vs (Nat.zero_add _)))
    have i57 : b.eval (.tmp 57) = vs 2 := (congrArg (fun x => Act.eval x (.tmp 57)) hb).trans ((fill_in _ 0 2 _ _ 57 (by kernel_rfl) rfl rfl (by simp)).trans (congrArg vs (Nat.zero_add _)))
    have i58 : b.eval (.tmp 58) = vs 3 := (congrArg (fun x => Act.eval x (.tmp 58)) hb).trans ((fill_in _ 0 3 _ _ 58 (by kernel_rfl) rfl rfl (by simp)).trans (congrArg vs (Nat.zero_add _)))
    have i59 : b.eval (.tmp 59) = vs 4 := (congrArg (fun x => Act.eval x (.tmp 59)) hb).trans ((fill_in _ 0 4 _ _ 59 (by kernel_rfl) rfl rfl (by simp)).trans (congrArg vs (Nat.zero_add _)))
    have i60 : b.eval (.tmp 60) = vs 5 := (congrArg (fun x => Act.eval x (.tmp 60)) hb).trans ((fill_in _ 0 5 _ _ 60 (by kernel_rfl) rfl rfl (by simp)).trans (congrArg vs (Nat.zero_add _)))
    have i61 : b.eval (.tmp 61) = vs 6 := (congrArg (fun x => Act.eval x (.tmp 61)) hb).trans ((fill_in _ 0 6 _ _ 61 (by kernel_rfl) rfl rfl (by simp)).trans (congrArg vs (Nat.zero_add _)))
    have i62 : b.eval (.tmp 62) = vs 7 := (congrArg (fun x => Act.eval x (.tmp 62)) hb).trans ((fill_in _ 0 7 _ _ 62 (by kernel_rfl) rfl rfl (by simp)).trans (congrArg vs (Nat.zero_add _)))
    have i63 : b.eval (.tmp 63) = vs 8 := (congrArg (fun x => Act.eval x (.tmp 63)) hb).trans ((fill_in _ 0 8 _ _ 63 (by kernel_rfl) rfl rfl (by simp)).trans (congrArg vs (Nat.zero_add _)))
    have i64 : b.eval (.tmp 64) = vs 9 := (congrArg (fun x => Act.eval x (.tmp 64)) hb).trans ((fill_in _ 0 9 _ _ 64 (by kernel_rfl) rfl rfl (by simp)).trans (congrArg vs (Nat.zero_add _)))
    have i65 : b.eval (.tmp 65) = vs 10 := (congrArg (fun x => Act.eval x (.tmp 65)) hb).trans ((fill_in _ 0 10 _ _ 65 (by kernel_rfl) rfl rfl (by simp)).trans (congrArg vs (Nat.zero_add _)))
    have i66 : b.eval (.tmp 66) = vs 11 := (congrArg (fun x => Act.eval x (.tmp 66)) hb).trans ((fill_in _ 0 11 _ _ 66 (by kernel_rfl) rfl rfl (by simp)).trans (congrArg vs (Nat.zero_add _)))
    have i67 : b.eval (.tmp 67) = vs 12 := (congrArg (fun x => Act.eval x (.tmp 67)) hb).trans ((fill_in _ 0 12 _ _ 67 (by kernel_rfl) rfl rfl (by simp)).trans (congrArg vs (Nat.zero_add _)))
    have i68 : b.eval (.tmp 68) = vs 13 := (congrArg (fun x => Act.eval x (.tmp 68)) hb).trans ((fill_in _ 0 13 _ _ 68 (by kernel_rfl) rfl rfl (by simp)).trans (congrArg vs (Nat.zero_add _)))
    have i69 : b.eval (.tmp 69) = vs 14 := (congrArg (fun x => Act.eval x (.tmp 69)) hb).trans ((fill_in _ 0 14 _ _ 69 (by kernel_rfl) rfl rfl (by simp)).trans (congrArg vs (Nat.zero_add _)))
    have i70 : b.eval (.tmp 70) = vs 15 := (congrArg (fun x => Act.eval x (.tmp 70)) hb).trans ((fill_in _ 0 15 _ _ 70 (by kernel_rfl) rfl rfl (by simp)).trans (congrArg vs (Nat.zero_add _)))
    have i71 : b.eval (.tmp 71) = vs 16 := (congrArg (fun x => Act.eval x (.tmp 71)) hb).trans ((fill_in _ 0 16 _ _ 71 (by kernel_rfl) rfl rfl (by simp)).trans (congrArg vs (Nat.zero_add _)))
    clear hb
    refine And.intro ?_ (And.intro ?_ (And.intro ?_ (And.intro ?_ (And.intro ?_ (And.intro ?_ (And.intro ?_ (And.intro ?_ (And.intro ?_ (And.intro ?_ (And.intro ?_ (And.intro ?_ (And.intro ?_ (And.intro ?_ (And.intro ?_ (And.intro ?_ (And.intro ?_ (And.intro ?_ (trivial))))))))))))))))))
    · intro hp K hK
      refine g_no rfl ?_
      exact st_move (.inl rfl) (e17) (hK _ _ rfl hG (Below.refl _ _))
    · intro hp K hK
      refine g_no rfl ?_
      have e55 : b.eval (.tmp 55) = .int .i64 (y * s0 + ((m : Int) / k1) - p0) := i55.trans (hp 0 (by kernel_rfl))
      exact st_bin rfl (e55) (eval_const _) b_geq (hK _ _ rfl hG (Below.refl _ _))
    · intro hp K hK
      refine g_no rfl ?_
      have e56 : b.eval (.tmp 56) = .bool (decide (0 ≤ (y * s0 + ((m : Int) / k1) - p0))) := i56.trans (hp 1 (by kernel_rfl))
      exact st_move (.inl rfl) (e56) (hK _ _ rfl hG (Below.refl _ _))
    · intro hp K hK
      refine g_is (j := 2) (want := true) (c := decide (0 ≤ (y * s0 + ((m : Int) / k1) - p0))) rfl (yielded_of (d := 57) rfl rfl (i57.trans (hp 2 (by kernel_rfl)))) (fun hb => ?_) (fun hb => hK _ _ (cond_no hb) hG (Below.refl _ _))
      exact st_move (.inl rfl) (e17) (hK _ _ (cond_yes hb).symm hG (Below.refl _ _))
    · intro hp K hK
      refine g_is (j := 2) (want := true) (c := decide (0 ≤ (y * s0 + ((m : Int) / k1) - p0))) rfl (yielded_of (d := 57) rfl rfl (i57.trans (hp 2 (by kernel_rfl)))) (fun hb => ?_) (fun hb => hK _ _ (cond_no hb) hG (Below.refl _ _))
      exact st_index rfl (e6) (eval_const _) (by kernel_rfl) (hK _ _ (cond_yes hb).symm hG (Below.refl _ _))
    · intro hp K hK
      refine g_is (j := 2) (want := true) (c := decide (0 ≤ (y * s0 + ((m : Int) / k1) - p0))) rfl (yielded_of (d := 57) rfl rfl (i57.trans (hp 2 (by kernel_rfl)))) (fun hb => ?_) (fun hb => hK _ _ (cond_no hb) hG (Below.refl _ _))
      have e59 : b.eval (.tmp 59) = (bif ((decide (0 ≤ (y * s0 + ((m : Int) / k1) - p0))) == true) then (.pointer (some ⟨w.heap.size, 0, none⟩)) else undef) := i59.trans (hp 4 (by kernel_rfl))
      replace e59 := e59.trans (cond_yes hb)
      exact st_load rfl (e59) (ld1 ((blk_cell hG.1.b0 0).trans rfl)) (hK _ _ (cond_yes hb).symm hG (Below.refl _ _))
    · intro hp K hK
      refine g_is (j := 2) (want := true) (c := decide (0 ≤ (y * s0 + ((m : Int) / k1) - p0))) rfl (yielded_of (d := 57) rfl rfl (i57.trans (hp 2 (by kernel_rfl)))) (fun hb => ?_) (fun hb => hK _ _ (cond_no hb) hG (Below.refl _ _))
      have e58 : b.eval (.tmp 58) = (bif ((decide (0 ≤ (y * s0 + ((m : Int) / k1) - p0))) == true) then (.int .i64 (y * s0 + ((m : Int) / k1) - p0)) else undef) := i58.trans (hp 3 (by kernel_rfl))
      replace e58 := e58.trans (cond_yes hb)
      have e60 : b.eval (.tmp 60) = (bif ((decide (0 ≤ (y * s0 + ((m : Int) / k1) - p0))) == true) then (.int .i64 n0) else undef) := i60.trans (hp 5 (by kernel_rfl))
      replace e60 := e60.trans (cond_yes hb)
      exact st_bin rfl (e58) (e60) b_lss (hK _ _ (cond_yes hb).symm hG (Below.refl _ _))
    · intro hp K hK
      refine g_no rfl ?_
      have e57 : b.eval (.tmp 57) = .bool (decide (0 ≤ (y * s0 + ((m : Int) / k1) - p0))) := i57.trans (hp 2 (by kernel_rfl))
      have e61 : b.eval (.tmp 61) = (bif ((decide (0 ≤ (y * s0 + ((m : Int) / k1) - p0))) == true) then (.bool (decide ((y * s0 + ((m : Int) / k1) - p0) < n0))) else undef) := i61.trans (hp 6 (by kernel_rfl))
      exact st_pick rfl (e57) (by first | (rw [e61]; exact pick_and) | (rw [show b.eval (Operand.tmp 61) = _ from eval_const _]; exact pick_and)) (hK _ _ rfl hG (Below.refl _ _))
    · intro hp K hK
      refine g_no rfl ?_
      have e62 : b.eval (.tmp 62) = .bool ((decide (0 ≤ (y * s0 + ((m : Int) / k1) - p0))) && (decide ((y * s0 + ((m : Int) / k1) - p0) < n0))) := i62.trans (hp 7 (by kernel_rfl))
      exact st_move (.inl rfl) (e62) (hK _ _ rfl hG (Below.refl _ _))
    · intro hp K hK
      refine g_is (j := 8) (want := true) (c := (decide (0 ≤ (y * s0 + ((m : Int) / k1) - p0))) && (decide ((y * s0 + ((m : Int) / k1) - p0) < n0))) rfl (yielded_of (d := 63) rfl rfl (i63.trans (hp 8 (by kernel_rfl)))) (fun hb => ?_) (fun hb => hK _ _ (cond_no hb) hG (Below.refl _ _))
      exact st_move (.inl rfl) (e18) (hK _ _ (cond_yes hb).symm hG (Below.refl _ _))
    · intro hp K hK
      refine g_is (j := 8) (want := true) (c := (decide (0 ≤ (y * s0 + ((m : Int) / k1) - p0))) && (decide ((y * s0 + ((m : Int) / k1) - p0) < n0))) rfl (yielded_of (d := 63) rfl rfl (i63.trans (hp 8 (by kernel_rfl)))) (fun hb => ?_) (fun hb => hK _ _ (cond_no hb) hG (Below.refl _ _))
      have e64 : b.eval (.tmp 64) = (bif (((decide (0 ≤ (y * s0 + ((m : Int) / k1) - p0))) && (decide ((y * s0 + ((m : Int) / k1) - p0) < n0))) == true) then (.int .i64 (x * s1 + ((m : Int) % k1) - p1)) else undef) := i64.trans (hp 9 (by kernel_rfl))
      replace e64 := e64.trans (cond_yes hb)
      exact st_bin rfl (e64) (eval_const _) b_geq (hK _ _ (cond_yes hb).symm hG (Below.refl _ _))
    · intro hp K hK
      refine g_no rfl ?_
      have e63 : b.eval (.tmp 63) = .bool ((decide (0 ≤ (y * s0 + ((m : Int) / k1) - p0))) && (decide ((y * s0 + ((m : Int) / k1) - p0) < n0))) := i63.trans (hp 8 (by kernel_rfl))
      have e65 : b.eval (.tmp 65) = (bif (((decide (0 ≤ (y * s0 + ((m : Int) / k1) - p0))) && (decide ((y * s0 + ((m : Int) / k1) - p0) < n0))) == true) then (.bool (decide (0 ≤ (x * s1 + ((m : Int) % k1) - p1)))) else undef) := i65.trans (hp 10 (by kernel_rfl))
      exact st_pick rfl (e63) (by first | (rw [e65]; exact pick_and) | (rw [show b.eval (Operand.tmp 65) = _ from eval_const _]; exact pick_and)) (hK _ _ rfl hG (Below.refl _ _))
    · intro hp K hK
      refine g_no rfl ?_
      have e66 : b.eval (.tmp 66) = .bool (((decide (0 ≤ (y * s0 + ((m : Int) / k1) - p0))) && (decide ((y * s0 + ((m : Int) / k1) - p0) < n0))) && (decide (0 ≤ (x * s1 + ((m : Int) % k1) - p1)))) := i66.trans (hp 11 (by kernel_rfl))
      exact st_move (.inl rfl) (e66) (hK _ _ rfl hG (Below.refl _ _))
    · intro hp K hK
      refine g_is (j := 12) (want := true) (c := ((decide (0 ≤ (y * s0 + ((m : Int) / k1) - p0))) && (decide ((y * s0 + ((m : Int) / k1) - p0) < n0))) && (decide (0 ≤ (x * s1 + ((m : Int) % k1) - p1)))) rfl (yielded_of (d := 67) rfl rfl (i67.trans (hp 12 (by kernel_rfl)))) (fun hb => ?_) (fun hb => hK _ _ (cond_no hb) hG (Below.refl _ _))
      exact st_move (.inl rfl) (e18) (hK _ _ (cond_yes hb).symm hG (Below.refl _ _))
    · intro hp K hK
      refine g_is (j := 12) (want := true) (c := ((decide (0 ≤ (y * s0 + ((m : Int) / k1) - p0))) && (decide ((y * s0 + ((m : Int) / k1) - p0) < n0))) && (decide (0 ≤ (x * s1 + ((m : Int) % k1) - p1)))) rfl (yielded_of (d := 67) rfl rfl (i67.trans (hp 12 (by kernel_rfl)))) (fun hb => ?_) (fun hb => hK _ _ (cond_no hb) hG (Below.refl _ _))
      exact st_index rfl (e6) (eval_const _) (by kernel_rfl) (hK _ _ (cond_yes hb).symm hG (Below.refl _ _))
    · intro hp K hK
      refine g_is (j := 12) (want := true) (c := ((decide (0 ≤ (y * s0 + ((m : Int) / k1) - p0))) && (decide ((y * s0 + ((m : Int) / k1) - p0) < n0))) && (decide (0 ≤ (x * s1 + ((m : Int) % k1) - p1)))) rfl (yielded_of (d := 67) rfl rfl (i67.trans (hp 12 (by kernel_rfl)))) (fun hb => ?_) (fun hb => hK _ _ (cond_no hb) hG (Below.refl _ _))
      have e69 : b.eval (.tmp 69) = (bif ((((decide (0 ≤ (y * s0 + ((m : Int) / k1) - p0))) && (decide ((y * s0 + ((m : Int) / k1) - p0) < n0))) && (decide (0 ≤ (x * s1 + ((m : Int) % k1) - p1)))) == true) then (.pointer (some ⟨w.heap.size, 1, none⟩)) else undef) := i69.trans (hp 14 (by kernel_rfl))
      replace e69 := e69.trans (cond_yes hb)
      exact st_load rfl (e69) (ld1 ((blk_cell hG.1.b0 1).trans rfl)) (hK _ _ (cond_yes hb).symm hG (Below.refl _ _))
    · intro hp K hK
      refine g_is (j := 12) (want := true) (c := ((decide (0 ≤ (y * s0 + ((m : Int) / k1) - p0))) && (decide ((y * s0 + ((m : Int) / k1) - p0) < n0))) && (decide (0 ≤ (x * s1 + ((m : Int) % k1) - p1)))) rfl (yielded_of (d := 67) rfl rfl (i67.trans (hp 12 (by kernel_rfl)))) (fun hb => ?_) (fun hb => hK _ _ (cond_no hb) hG (Below.refl _ _))
      have e68 : b.eval (.tmp 68) = (bif ((((decide (0 ≤ (y * s0 + ((m : Int) / k1) - p0))) && (decide ((y * s0 + ((m : Int) / k1) - p0) < n0))) && (decide (0 ≤ (x * s1 + ((m : Int) % k1) - p1)))) == true) then (.int .i64 (x * s1 + ((m : Int) % k1) - p1)) else undef) := i68.trans (hp 13 (by kernel_rfl))
      replace e68 := e68.trans (cond_yes hb)
      have e70 : b.eval (.tmp 70) = (bif ((((decide (0 ≤ (y * s0 + ((m : Int) / k1) - p0))) && (decide ((y * s0 + ((m : Int) / k1) - p0) < n0))) && (decide (0 ≤ (x * s1 + ((m : Int) % k1) - p1)))) == true) then (.int .i64 n1) else undef) := i70.trans (hp 15 (by kernel_rfl))
      replace e70 := e70.trans (cond_yes hb)
      exact st_bin rfl (e68) (e70) b_lss (hK _ _ (cond_yes hb).symm hG (Below.refl _ _))
    · intro hp K hK
      refine g_no rfl ?_
      have e67 : b.eval (.tmp 67) = .bool (((decide (0 ≤ (y * s0 + ((m : Int) / k1) - p0))) && (decide ((y * s0 + ((m : Int) / k1) - p0) < n0))) && (decide (0 ≤ (x * s1 + ((m : Int) % k1) - p1)))) := i67.trans (hp 12 (by kernel_rfl))
      have e71 : b.eval (.tmp 71) = (bif ((((decide (0 ≤ (y * s0 + ((m : Int) / k1) - p0))) && (decide ((y * s0 + ((m : Int) / k1) - p0) < n0))) && (decide (0 ≤ (x * s1 + ((m : Int) % k1) - p1)))) == true) then (.bool (decide ((x * s1 + ((m : Int) % k1) - p1) < n1))) else undef) := i71.trans (hp 16 (by kernel_rfl))
      exact st_pick rfl (e67) (by first | (rw [e71]; exact pick_and) | (rw [show b.eval ((Operand.tmp 71)) = _ from eval_const _]; exact pick_and)) (hK _ _ rfl hG (Below.refl _ _))
  intro vs W hG hp b hb
  have q17 : vs 17 = .bool (inB n0 n1 s0 s1 p0 p1 y x ((m : Int) / k1) ((m : Int) % k1)) := hp 17 (by decide)
  clear hp
  simp only [fill, Act.put, List.append_eq, List.cons_append, List.nil_append, List.take_succ_cons, List.take_zero, List.setIfInBounds_toArray, List.set_cons_succ, List.set_cons_zero, Nat.reduceAdd, Nat.zero_add, q17] at hb
  subst hb
  refine wpList_nil ?_
  clear q17
  refine HK10.out _ _ ?_
  clear HK10
  refine wp_cond_split rfl (fun hin => ?_) (fun hin => ?_)
  rotate_left
  · have hl : IntKind.i64.wrap ((m : Int) + 1) = (m : Int) + 1 := IntWalk.i64_in _ (by have := HK.out; omega)
    have hG := Lib.hid hG
    have hin := Lib.hid hin
    have hlt := Lib.hid hlt
    apply wp_skip
    simp only [Exit.inBlock, Exit.then]
    refine HK7.out _ _ ?_
    clear HK7
    go_wp2
    refine ⟨loop_frame (by kernel_rfl), ⟨m + 1, by show Value.int .i64 _ = _; simp, by have := hlt.out; omega, hG.out.1, by rw [tapsL_no hin.out]; exact hG.out.2⟩, ?_⟩
    show (k0 * k1 - intOf (.int .i64 ((m : Int) + 1))).toNat < (k0 * k1 - intOf (.int .i64 (m : Int))).toNat
    have := hlt.out
    simp only [intOf]
    omega
  refine wp_listed (R := fun W W' => Below W.heap.size W W') 5 [.val (v13), .val (.int .i64 ((m : Int) / k1)), .val (.int .i64 ((m : Int) % k1)), .val (.agg #[.int .i64 ((m : Int) / k1), .int .i64 ((m : Int) % k1)]), ⟨fun v W => ∃ gg, v = .slice (some ⟨gg, 0, none⟩) 1 1 ∧ W.heap[gg]? = some (.cells #[.int .i64 ((m : Int) / k1), .int .i64 ((m : Int) % k1)] 34 (0, 0)), fun _ _ _ ⟨gg, h1, h2⟩ hb => ⟨gg, h1, blk_below h2 hb⟩⟩] (fun W => O4 n0 n1 k0 k1 s0 s1 p0 p1 p2 p3 w W ∧ W.ownsRow (w.heap.size + 4) 34 2 v13 (tapsL n0 n1 k1 s0 s1 p0 p1 y x m).length (flat (tapsL n0 n1 k1 s0 s1 p0 p1 y x m))) (by kernel_rfl) hG ?_ ?_
  · intro vs W hG b hb
    have e13 : b.eval (.tmp 13) = v13 := (congrArg (fun x => Act.eval x (.tmp 13)) hb).trans ((fill_out _ 0 _ (by kernel_rfl)).trans rfl)
    have e15 : b.eval (.tmp 15) = .int .i64 ((m : Int) / k1) := (congrArg (fun x => Act.eval x (.tmp 15)) hb).trans ((fill_out _ 0 _ (by kernel_rfl)).trans rfl)
    have e16 : b.eval (.tmp 16) = .int .i64 ((m : Int) % k1) := (congrArg (fun x => Act.eval x (.tmp 16)) hb).trans ((fill_out _ 0 _ (by kernel_rfl)).trans rfl)
    have i74 : b.eval (.tmp 74) = vs 1 := (congrArg (fun x => Act.eval x (.tmp 74)) hb).trans ((fill_in _ 0 1 _ _ 74 (by kernel_rfl) rfl rfl (by simp)).trans (congrArg vs (Nat.zero_add _)))
    have i75 : b.eval (.tmp 75) = vs 2 := (congrArg (fun x => Act.eval x (.tmp 75)) hb).trans ((fill_in _ 0 2 _ _ 75 (by kernel_rfl) rfl rfl (by simp)).trans (congrArg vs (Nat.zero_add _)))
    have i76 : b.eval (.tmp 76) = vs 3 := (congrArg (fun x => Act.eval x (.tmp 76)) hb).trans ((fill_in _ 0 3 _ _ 76 (by kernel_rfl) rfl rfl (by simp)).trans (congrArg vs (Nat.zero_add _)))
    clear hb
    refine And.intro ?_ (And.intro ?_ (And.intro ?_ (And.intro ?_ (And.intro ?_ (trivial)))))
    · intro hp K hK
      refine g_no rfl ?_
      exact st_move (.inl rfl) (e13) (hK _ _ rfl hG (Below.refl _ _))
    · intro hp K hK
      refine g_no rfl ?_
      exact st_move (.inl rfl) (e15) (hK _ _ rfl hG (Below.refl _ _))
    · intro hp K hK
      refine g_no rfl ?_
      exact st_move (.inl rfl) (e16) (hK _ _ rfl hG (Below.refl _ _))
    · intro hp K hK
      refine g_no rfl ?_
      have e74 : b.eval (.tmp 74) = .int .i64 ((m : Int) / k1) := i74.trans (hp 1 (by kernel_rfl))
      have e75 : b.eval (.tmp 75) = .int .i64 ((m : Int) % k1) := i75.trans (hp 2 (by kernel_rfl))
      exact st_build rfl (by first | (simp only [List.map_toArray, List.map_cons, List.map_nil, eval_const, e74, e75]; done) | (simp only [List.map_toArray, List.map_cons, List.map_nil, eval_const, e74, e75]; rfl)) (by kernel_rfl) (hK _ _ rfl hG (Below.refl _ _))
    · intro hp K hK
      refine g_no rfl ?_
      have e76 : b.eval (.tmp 76) = .agg #[.int .i64 ((m : Int) / k1), .int .i64 ((m : Int) % k1)] := i76.trans (hp 3 (by kernel_rfl))
      exact st_buildSlice rfl (by first | (simp only [List.map_toArray, List.map_cons, List.map_nil, eval_const, e76]; done) | (simp only [List.map_toArray, List.map_cons, List.map_nil, eval_const, e76]; rfl)) (bs1 _ _ _) (hK _ _ ⟨_, rfl, blk_new _ _⟩ ⟨hG.1.alloc _, ownsRow_below hG.2 ((Below.refl _ _).alloc (Nat.le_refl _) _)⟩ ((Below.refl _ _).alloc (Nat.le_refl _) _))
  intro vs W hG hp b hb
  have q0 : vs 0 = v13 := hp 0 (by decide)
  have q1 : vs 1 = .int .i64 ((m : Int) / k1) := hp 1 (by decide)
  have q2 : vs 2 = .int .i64 ((m : Int) % k1) := hp 2 (by decide)
  have q3 : vs 3 = .agg #[.int .i64 ((m : Int) / k1), .int .i64 ((m : Int) % k1)] := hp 3 (by decide)
  have q4 : ∃ gg, (vs 4) = .slice (some ⟨gg, 0, none⟩) 1 1 ∧ W.heap[gg]? = some (.cells #[.int .i64 ((m : Int) / k1), .int .i64 ((m : Int) % k1)] 34 (0, 0)) := hp 4 (by decide)
  clear hp
  simp only [fill, Act.put, List.append_eq, List.cons_append, List.nil_append, List.take_succ_cons, List.take_zero, List.setIfInBounds_toArray, List.set_cons_succ, List.set_cons_zero, Nat.reduceAdd, Nat.zero_add, q0, q1, q2, q3] at hb
  subst hb
  simp only [List.append_eq, List.cons_append, List.nil_append, List.drop_succ_cons, List.drop_zero]
  clear q0 q1 q2 q3
  obtain ⟨gg, hv4, A⟩ := q4
  rw [hv4]
  clear hv4
  obtain ⟨hG, hown⟩ := hG
  have hc := hG.size
  have hlen : (tapsL n0 n1 k1 s0 s1 p0 p1 y x m).length ≤ m := tapsL_le
  have hm64 : m < 64 := by have := HK.out; omega
  refine wpList_append_own W rfl (.tmp 73) (.tmp 77) 45 rfl (w.heap.size + 4) 34 i0 _ 2 16 Try.underlying45 II.out IZ.out.1 IZ.out.2.1 IZ.out.2.2 rfl (by decide) v13 _ _ rfl hown ⟨gg, 0, none⟩ 1 1 [.int .i64 ((m : Int) / k1), .int .i64 ((m : Int) % k1)] rfl rfl (news2 A) (fun u hu => by simp at hu; rcases hu with rfl | rfl <;> rfl) (by unfold maxLen; omega) (by omega) (by omega) ?_
  intro v' w' hown' hgrow _
  have hG2 := hG.grown hgrow (ownsRow_base hown)
  have hown2 : w'.ownsRow (w.heap.size + 4) 34 2 v' (tapsL n0 n1 k1 s0 s1 p0 p1 y x (m + 1)).length (flat (tapsL n0 n1 k1 s0 s1 p0 p1 y x (m + 1))) := by
    rw [tapsL_yes hin, flat_snoc, List.length_append]
    exact hown'
  clear hown' hG hown A hgrow hlen hm64 hc
  have hl : IntKind.i64.wrap ((m : Int) + 1) = (m : Int) + 1 := IntWalk.i64_in _ (by have := HK.out; omega)
  have hG := Lib.hid hG2
  have hown := Lib.hid hown2
  have hin := Lib.hid hin
  have hlt := Lib.hid hlt
  clear hG2 hown2
  go_wp2
  refine HK7.out _ _ ?_
  clear HK7
  go_wp2
  refine ⟨loop_frame (by kernel_rfl), ⟨m + 1, by show Value.int .i64 _ = _; simp, by have := hlt.out; omega, hG.out, hown.out⟩, ?_⟩
  show (k0 * k1 - intOf (.int .i64 ((m : Int) + 1))).toNat < (k0 * k1 - intOf (.int .i64 (m : Int))).toNat
  have := hlt.out
  simp only [intOf]
  omega
end Go.Proofs.Ytfcimgdogkpbcaa.W
