/- Window: Taps. -/
import Derived.Test.YtfcimgdogkpbcaaW15
namespace Go.Proofs.Ytfcimgdogkpbcaa.W
open Go.RowKit T1 F Dr
set_option linter.unusedVariables false
set_option linter.unusedSimpArgs false
set_option maxRecDepth 100000
attribute [local go_sem] run_store_complex

/-- A measure that simp leaves alone. -/
def Msr (c : Int) (v : Value) : Nat := (c - intOf v).toNat
theorem Msr.lt {c a : Int} (h : a < c) : Msr c (.int .i64 (a + 1)) < Msr c (.int .i64 a) := by
  unfold Msr
  simp only [intOf]
  omega
theorem at_place {i j : Nat} {k1 : Int} (hk : 1 ≤ k1) (hj : (j : Int) < k1) : (((((i : Int) * k1 + (j : Int)).toNat : Nat) : Int) / k1 = (i : Int)) ∧ (((((i : Int) * k1 + (j : Int)).toNat : Nat) : Int) % k1 = (j : Int)) ∧ (((i : Int) * k1 + (j : Int)).toNat + 1 = ((i : Int) * k1 + ((j + 1 : Nat) : Int)).toNat) := by
  have h0 : 0 ≤ (i : Int) * k1 := Int.mul_nonneg (by omega) (by omega)
  have e : ((((i : Int) * k1 + (j : Int)).toNat : Nat) : Int) = (j : Int) + (i : Int) * k1 := by omega
  rw [e]
  refine ⟨?_, ?_, by omega⟩
  · rw [Int.add_mul_ediv_right _ _ (by omega), Int.ediv_eq_zero_of_lt (by omega) hj, Int.zero_add]
  · rw [Int.add_mul_emod_self_right, Int.emod_eq_of_lt (by omega) hj]
theorem wi_in {n0 n1 s0 s1 p0 p1 y x i j : Int} : wiB (y * s0 - p0 + i) (x * s1 - p1 + j) n0 n1 = inB n0 n1 s0 s1 p0 p1 y x i j := by
  unfold wiB inB
  rw [show y * s0 - p0 + i = y * s0 + i - p0 by omega, show x * s1 - p1 + j = x * s1 + j - p1 by omega]
  generalize decide (0 ≤ y * s0 + i - p0) = a
  generalize decide (0 ≤ x * s1 + j - p1) = b
  generalize decide (y * s0 + i - p0 < n0) = c
  generalize decide (x * s1 + j - p1 < n1) = d
  cases a <;> cases b <;> cases c <;> cases d <;> rfl
/-- Taps have come back, and that there are. -/
def TapsRet2 (l : List (Int × Int)) (w : World) (e : Ending) (w' : World) : Prop := ∃ v, e = .returned (.tuple #[v, .bool true]) ∧ w'.ownsRow w.heap.size 34 2 v l.length (flat l) ∧ Below w.heap.size w w'
set_option maxHeartbeats 4000000 in
theorem Taps_bad (n0 n1 k0 k1 s0 s1 p0 p1 p2 p3 y x : Int) (w : World) (h : goodV n0 n1 k0 k1 s0 s1 p0 p1 p2 p3 = false) : Calls Try.prog 26 #[.agg #[.int .i64 n0, .int .i64 n1], .agg #[.int .i64 k0, .int .i64 k1], .agg #[.int .i64 s0, .int .i64 s1], .agg #[.int .i64 p0, .int .i64 p1, .int .i64 p2, .int .i64 p3], .int .i64 y, .int .i64 x] w (fun e w' => e = .returned (.tuple #[.slice none 0 0, .bool false]) ∧ Below w.heap.size w w') := by
  have H := Lib.hid h
  clear h
  have J := Lib.hid (O4.start n0 n1 k0 k1 s0 s1 p0 p1 p2 p3 w)
  go_enter Try.func26, Try.ntmps26
  apply wp_seq_k
  intro K1 hK1
  have HK1 := Lib.hid hK1
  clear hK1
  go_wp2
  refine HK1.out _ _ ?_
  clear HK1
  generalize (((w.alloc (box2 n0 n1)).alloc (box2 k0 k1)).alloc (box2 s0 s1)).alloc (box4 p0 p1 p2 p3) = u0 at *
  replace J := J.out
  apply wp_seq_k
  intro K2 hK2
  have HK2 := Lib.hid hK2
  clear hK2
  refine wp_listed (R := fun W W' => Below W.heap.size W W') 9 [.val (.agg #[.int .i64 n0, .int .i64 n1]), .val (.agg #[.int .i64 k0, .int .i64 k1]), .val (.agg #[.int .i64 s0, .int .i64 s1]), .val (.agg #[.int .i64 p0, .int .i64 p1, .int .i64 p2, .int .i64 p3]), ⟨fun v _ => ∃ x0 y0 x1 y1 x2 y2 x3 y3 x4 y4 : Nat, v = .tuple #[.agg #[.complex .f64 x0 y0, .complex .f64 x1 y1, .complex .f64 x2 y2, .complex .f64 x3 y3, .complex .f64 x4 y4], .bool false], fun _ _ _ h _ => h⟩, ⟨fun v _ => ∃ x0 y0 x1 y1 x2 y2 x3 y3 x4 y4 : Nat, v = .tuple #[.agg #[.complex .f64 x0 y0, .complex .f64 x1 y1, .complex .f64 x2 y2, .complex .f64 x3 y3, .complex .f64 x4 y4], .bool false], fun _ _ _ h _ => h⟩, ⟨fun v _ => ∃ x0 y0 x1 y1 x2 y2 x3 y3 x4 y4 : Nat, v = .agg #[.complex .f64 x0 y0, .complex .f64 x1 y1, .complex .f64 x2 y2, .complex .f64 x3 y3, .complex .f64 x4 y4], fun _ _ _ h _ => h⟩, .val (.bool false), newSpec (z5) (w.heap.size + 4)] (fun W => O4 n0 n1 k0 k1 s0 s1 p0 p1 p2 p3 w W) (by kernel_rfl) J ?_ ?_
  · intro vs W hG b hb
    have e6 : b.eval (.tmp 6) = .pointer (some ⟨w.heap.size, 0, none⟩) := (congrArg (fun x => Act.eval x (.tmp 6)) hb).trans ((fill_out _ 0 _ (by kernel_rfl)).trans rfl)
    have e7 : b.eval (.tmp 7) = .pointer (some ⟨w.heap.size + 1, 0, none⟩) := (congrArg (fun x => Act.eval x (.tmp 7)) hb).trans ((fill_out _ 0 _ (by kernel_rfl)).trans rfl)
    have e8 : b.eval (.tmp 8) = .pointer (some ⟨w.heap.size + 1 + 1, 0, none⟩) := (congrArg (fun x => Act.eval x (.tmp 8)) hb).trans ((fill_out _ 0 _ (by kernel_rfl)).trans rfl)
    have e9 : b.eval (.tmp 9) = .pointer (some ⟨w.heap.size + 1 + 1 + 1, 0, none⟩) := (congrArg (fun x => Act.eval x (.tmp 9)) hb).trans ((fill_out _ 0 _ (by kernel_rfl)).trans rfl)
    have i21 : b.eval (.tmp 21) = vs 5 := (congrArg (fun x => Act.eval x (.tmp 21)) hb).trans ((fill_in _ 0 5 _ _ 21 (by kernel_rfl) rfl rfl (by simp)).trans (congrArg vs (Nat.zero_add _)))
    have i22 : b.eval (.tmp 22) = vs 0 := (congrArg (fun x => Act.eval x (.tmp 22)) hb).trans ((fill_in _ 0 0 _ _ 22 (by kernel_rfl) rfl rfl (by simp)).trans (congrArg vs (Nat.zero_add _)))
    have i23 : b.eval (.tmp 23) = vs 1 := (congrArg (fun x => Act.eval x (.tmp 23)) hb).trans ((fill_in _ 0 1 _ _ 23 (by kernel_rfl) rfl rfl (by simp)).trans (congrArg vs (Nat.zero_add _)))
    have i24 : b.eval (.tmp 24) = vs 2 := (congrArg (fun x => Act.eval x (.tmp 24)) hb).trans ((fill_in _ 0 2 _ _ 24 (by kernel_rfl) rfl rfl (by simp)).trans (congrArg vs (Nat.zero_add _)))
    have i25 : b.eval (.tmp 25) = vs 3 := (congrArg (fun x => Act.eval x (.tmp 25)) hb).trans ((fill_in _ 0 3 _ _ 25 (by kernel_rfl) rfl rfl (by simp)).trans (congrArg vs (Nat.zero_add _)))
    have i26 : b.eval (.tmp 26) = vs 4 := (congrArg (fun x => Act.eval x (.tmp 26)) hb).trans ((fill_in _ 0 4 _ _ 26 (by kernel_rfl) rfl rfl (by simp)).trans (congrArg vs (Nat.zero_add _)))
    clear hb
    refine And.intro ?_ (And.intro ?_ (And.intro ?_ (And.intro ?_ (And.intro ?_ (And.intro ?_ (And.intro ?_ (And.intro ?_ (And.intro ?_ (trivial)))))))))
    · intro hp K hK
      refine g_no rfl ?_
      exact st_load rfl (e6) (ld2 hG.b0) (hK _ _ rfl hG (Below.refl _ _))
    · intro hp K hK
      refine g_no rfl ?_
      exact st_load rfl (e7) (ld2 hG.b1) (hK _ _ rfl hG (Below.refl _ _))
    · intro hp K hK
      refine g_no rfl ?_
      exact st_load rfl (e8) (ld2 hG.b2) (hK _ _ rfl hG (Below.refl _ _))
    · intro hp K hK
      refine g_no rfl ?_
      exact st_load rfl (e9) (ld4 hG.b3) (hK _ _ rfl hG (Below.refl _ _))
    · intro hp K hK
      refine g_no rfl ?_
      have e22 : b.eval (.tmp 22) = .agg #[.int .i64 n0, .int .i64 n1] := i22.trans (hp 0 (by kernel_rfl))
      have e23 : b.eval (.tmp 23) = .agg #[.int .i64 k0, .int .i64 k1] := i23.trans (hp 1 (by kernel_rfl))
      have e24 : b.eval (.tmp 24) = .agg #[.int .i64 s0, .int .i64 s1] := i24.trans (hp 2 (by kernel_rfl))
      have e25 : b.eval (.tmp 25) = .agg #[.int .i64 p0, .int .i64 p1, .int .i64 p2, .int .i64 p3] := i25.trans (hp 3 (by kernel_rfl))
      refine st_call rfl (by first | (simp only [List.map_toArray, List.map_cons, List.map_nil, eval_const, e22, e23, e24, e25]; done) | (simp only [List.map_toArray, List.map_cons, List.map_nil, eval_const, e22, e23, e24, e25]; rfl)) (by kernel_rfl) ?_
      refine (of_bad n0 n1 k0 k1 s0 s1 p0 p1 p2 p3 _ H.out).mono ?_
      rintro e w' ⟨x0, y0, x1, y1, x2, y2, x3, y3, x4, y4, rfl, hb'⟩
      exact ⟨_, rfl, hK _ _ ⟨x0, y0, x1, y1, x2, y2, x3, y3, x4, y4, rfl⟩ (hG.step hb') hb'⟩
    · intro hp K hK
      refine g_no rfl ?_
      have q4 : ∃ x0 y0 x1 y1 x2 y2 x3 y3 x4 y4 : Nat, (vs 4) = .tuple #[.agg #[.complex .f64 x0 y0, .complex .f64 x1 y1, .complex .f64 x2 y2, .complex .f64 x3 y3, .complex .f64 x4 y4], .bool false] := hp 4 (by kernel_rfl)
      obtain ⟨x0, y0, x1, y1, x2, y2, x3, y3, x4, y4, hv⟩ := q4
      have e26 := i26.trans hv
      exact st_move (.inl rfl) (e26) (hK _ _ ⟨x0, y0, x1, y1, x2, y2, x3, y3, x4, y4, rfl⟩ hG (Below.refl _ _))
    · intro hp K hK
      refine g_no rfl ?_
      have q5 : ∃ x0 y0 x1 y1 x2 y2 x3 y3 x4 y4 : Nat, (vs 5) = .tuple #[.agg #[.complex .f64 x0 y0, .complex .f64 x1 y1, .complex .f64 x2 y2, .complex .f64 x3 y3, .complex .f64 x4 y4], .bool false] := hp 5 (by kernel_rfl)
      obtain ⟨x0, y0, x1, y1, x2, y2, x3, y3, x4, y4, hv⟩ := q5
      have e21 := i21.trans hv
      exact st_extract rfl (e21) (by kernel_rfl) (hK _ _ ⟨x0, y0, x1, y1, x2, y2, x3, y3, x4, y4, rfl⟩ hG (Below.refl _ _))
    · intro hp K hK
      refine g_no rfl ?_
      have q5 : ∃ x0 y0 x1 y1 x2 y2 x3 y3 x4 y4 : Nat, (vs 5) = .tuple #[.agg #[.complex .f64 x0 y0, .complex .f64 x1 y1, .complex .f64 x2 y2, .complex .f64 x3 y3, .complex .f64 x4 y4], .bool false] := hp 5 (by kernel_rfl)
      obtain ⟨x0, y0, x1, y1, x2, y2, x3, y3, x4, y4, hv⟩ := q5
      have e21 := i21.trans hv
      exact st_extract rfl (e21) (by kernel_rfl) (hK _ _ rfl hG (Below.refl _ _))
    · intro hp K hK
      refine g_no rfl ?_
      exact st_alloc rfl (new5 _) (hK _ _ ⟨_, rfl, blk_new _ _, hG.size⟩ (hG.alloc _) ((Below.refl _ _).alloc (Nat.le_refl _) _))
  intro vs W hG hp b hb
  have q0 : vs 0 = .agg #[.int .i64 n0, .int .i64 n1] := hp 0 (by decide)
  have q1 : vs 1 = .agg #[.int .i64 k0, .int .i64 k1] := hp 1 (by decide)
  have q2 : vs 2 = .agg #[.int .i64 s0, .int .i64 s1] := hp 2 (by decide)
  have q3 : vs 3 = .agg #[.int .i64 p0, .int .i64 p1, .int .i64 p2, .int .i64 p3] := hp 3 (by decide)
  have q4 : ∃ x0 y0 x1 y1 x2 y2 x3 y3 x4 y4 : Nat, (vs 4) = .tuple #[.agg #[.complex .f64 x0 y0, .complex .f64 x1 y1, .complex .f64 x2 y2, .complex .f64 x3 y3, .complex .f64 x4 y4], .bool false] := hp 4 (by decide)
  have q5 : ∃ x0 y0 x1 y1 x2 y2 x3 y3 x4 y4 : Nat, (vs 5) = .tuple #[.agg #[.complex .f64 x0 y0, .complex .f64 x1 y1, .complex .f64 x2 y2, .complex .f64 x3 y3, .complex .f64 x4 y4], .bool false] := hp 5 (by decide)
  have q6 : ∃ x0 y0 x1 y1 x2 y2 x3 y3 x4 y4 : Nat, (vs 6) = .agg #[.complex .f64 x0 y0, .complex .f64 x1 y1, .complex .f64 x2 y2, .complex .f64 x3 y3, .complex .f64 x4 y4] := hp 6 (by decide)
  have q7 : vs 7 = .bool false := hp 7 (by decide)
  have q8 : ∃ gg, (vs 8) = .pointer (some ⟨gg, 0, none⟩) ∧ W.heap[gg]? = some (z5) ∧ w.heap.size + 4 ≤ gg := hp 8 (by decide)
  clear hp
  simp only [fill, Act.put, List.append_eq, List.cons_append, List.nil_append, List.take_succ_cons, List.take_zero, List.setIfInBounds_toArray, List.set_cons_succ, List.set_cons_zero, Nat.reduceAdd, Nat.zero_add, q0, q1, q2, q3, q7] at hb
  subst hb
  simp only [List.append_eq, List.cons_append, List.nil_append, List.drop_succ_cons, List.drop_zero]
  clear q0 q1 q2 q3 q7
  obtain ⟨g, hv, A, hg⟩ := q8
  rw [hv]
  clear hv J
  clear q4 q5
  obtain ⟨x0, y0, x1, y1, x2, y2, x3, y3, x4, y4, hv⟩ := q6
  rw [hv]
  clear hv
  have z0 := zc0 A
  have y'0 := zf0 A
  have z1 := zc1 A
  have y'1 := zf1 A
  have z2 := zc2 A
  have y'2 := zf2 A
  have z3 := zc3 A
  have y'3 := zf3 A
  have z4 := zc4 A
  have y'4 := zf4 A
  have hJ := Lib.hid hG
  clear hG
  go_wp2
  replace hJ := hJ.out
  clear z0 y'0 z1 y'1 z2 y'2 z3 y'3 z4 y'4
  have hG := (((((hJ.set hg 0 (.complex .f64 x0 y0)).set hg 1 (.complex .f64 x1 y1)).set hg 2 (.complex .f64 x2 y2)).set hg 3 (.complex .f64 x3 y3)).set hg 4 (.complex .f64 x4 y4))
  have hA : (((((W.setCell ⟨g, 0, none⟩ (.complex .f64 x0 y0)).setCell ⟨g, 1, none⟩ (.complex .f64 x1 y1)).setCell ⟨g, 2, none⟩ (.complex .f64 x2 y2)).setCell ⟨g, 3, none⟩ (.complex .f64 x3 y3)).setCell ⟨g, 4, none⟩ (.complex .f64 x4 y4)).heap[g]? = some (.cells #[(.complex .f64 x0 y0), (.complex .f64 x1 y1), (.complex .f64 x2 y2), (.complex .f64 x3 y3), (.complex .f64 x4 y4)] 53 (0, 0)) := z5_put A _ _ _ _ _ _ _ _ _ _
  generalize ((((W.setCell ⟨g, 0, none⟩ (.complex .f64 x0 y0)).setCell ⟨g, 1, none⟩ (.complex .f64 x1 y1)).setCell ⟨g, 2, none⟩ (.complex .f64 x2 y2)).setCell ⟨g, 3, none⟩ (.complex .f64 x3 y3)).setCell ⟨g, 4, none⟩ (.complex .f64 x4 y4) = V at *
  clear hJ A
  refine HK2.out _ _ ?_
  clear HK2
  apply wp_seq_k
  intro K3 hK3
  have HK3 := Lib.hid hK3
  clear hK3
  apply wp_seq_k
  intro K4 hK4
  have HK4 := Lib.hid hK4
  clear hK4
  refine wp_drawn (R := fun W W' => Below W.heap.size W W') 13 [.val (.bool false), .val (.bool (!false)), .val (.bool (!false)), .val ((bif ((!false) == false) then (undef) else undef)), .val ((bif ((!false) == false) then (undef) else undef)), .val ((bif ((!false) == false) then (undef) else undef)), .val ((bif ((!false) == false) then (undef) else undef)), .val ((bif ((!false) == false) then (undef) else undef)), .val ((bif ((!false) == false) then (undef) else undef)), .val ((bif ((!false) == false) then (undef) else undef)), .val ((bif ((!false) == false) then (undef) else undef)), .val ((bif ((!false) == false) then (undef) else undef)), .val (.bool true)] (fun W => O4 n0 n1 k0 k1 s0 s1 p0 p1 p2 p3 w W ∧ W.heap[g]? = some (.cells #[(.complex .f64 x0 y0), (.complex .f64 x1 y1), (.complex .f64 x2 y2), (.complex .f64 x3 y3), (.complex .f64 x4 y4)] 53 (0, 0))) rfl (by kernel_rfl) ⟨hG.drew, hA⟩ ?_ ?_
  · intro vs W hG b hb
    have e4 : b.eval (.tmp 4) = .int .i64 y := (congrArg (fun x => Act.eval x (.tmp 4)) hb).trans ((fill_out _ 0 _ (by kernel_rfl)).trans rfl)
    have e5 : b.eval (.tmp 5) = .int .i64 x := (congrArg (fun x => Act.eval x (.tmp 5)) hb).trans ((fill_out _ 0 _ (by kernel_rfl)).trans rfl)
    have e14 : b.eval (.tmp 14) = .pointer (some ⟨g, 0, none⟩) := (congrArg (fun x => Act.eval x (.tmp 14)) hb).trans ((fill_out _ 0 _ (by kernel_rfl)).trans rfl)
    have e15 : b.eval (.tmp 15) = .bool false := (congrArg (fun x => Act.eval x (.tmp 15)) hb).trans ((fill_out _ 0 _ (by kernel_rfl)).trans rfl)
    have i29 : b.eval (.tmp 29) = vs 0 := (congrArg (fun x => Act.eval x (.tmp 29)) hb).trans ((fill_in _ 0 0 _ _ 29 (by kernel_rfl) rfl rfl (by simp)).trans (congrArg vs (Nat.zero_add _)))
    have i30 : b.eval (.tmp 30) = vs 1 := (congrArg (fun x => Act.eval x (.tmp 30)) hb).trans ((fill_in _ 0 1 _ _ 30 (by kernel_rfl) rfl rfl (by simp)).trans (congrArg vs (Nat.zero_add _)))
    have i31 : b.eval (.tmp 31) = vs 2 := (congrArg (fun x => Act.eval x (.tmp 31)) hb).trans ((fill_in _ 0 2 _ _ 31 (by kernel_rfl) rfl rfl (by simp)).trans (congrArg vs (Nat.zero_add _)))
    have i32 : b.eval (.tmp 32) = vs 3 := (congrArg (fun x => Act.eval x (.tmp 32)) hb).trans ((fill_in _ 0 3 _ _ 32 (by kernel_rfl) rfl rfl (by simp)).trans (congrArg vs (Nat.zero_add _)))
    have i33 : b.eval (.tmp 33) = vs 4 := (congrArg (fun x => Act.eval x (.tmp 33)) hb).trans ((fill_in _ 0 4 _ _ 33 (by kernel_rfl) rfl rfl (by simp)).trans (congrArg vs (Nat.zero_add _)))
    have i34 : b.eval (.tmp 34) = vs 5 := (congrArg (fun x => Act.eval x (.tmp 34)) hb).trans ((fill_in _ 0 5 _ _ 34 (by kernel_rfl) rfl rfl (by simp)).trans (congrArg vs (Nat.zero_add _)))
    have i35 : b.eval (.tmp 35) = vs 6 := (congrArg (fun x => Act.eval x (.tmp 35)) hb).trans ((fill_in _ 0 6 _ _ 35 (by kernel_rfl) rfl rfl (by simp)).trans (congrArg vs (Nat.zero_add _)))
    have i36 : b.eval (.tmp 36) = vs 7 := (congrArg (fun x => Act.eval x (.tmp 36)) hb).trans ((fill_in _ 0 7 _ _ 36 (by kernel_rfl) rfl rfl (by simp)).trans (congrArg vs (Nat.zero_add _)))
    have i37 : b.eval (.tmp 37) = vs 8 := (congrArg (fun x => Act.eval x (.tmp 37)) hb).trans ((fill_in _ 0 8 _ _ 37 (by kernel_rfl) rfl rfl (by simp)).trans (congrArg vs (Nat.zero_add _)))
    have i38 : b.eval (.tmp 38) = vs 9 := (congrArg (fun x => Act.eval x (.tmp 38)) hb).trans ((fill_in _ 0 9 _ _ 38 (by kernel_rfl) rfl rfl (by simp)).trans (congrArg vs (Nat.zero_add _)))
    have i39 : b.eval (.tmp 39) = vs 10 := (congrArg (fun x => Act.eval x (.tmp 39)) hb).trans ((fill_in _ 0 10 _ _ 39 (by kernel_rfl) rfl rfl (by simp)).trans (congrArg vs (Nat.zero_add _)))
    have i40 : b.eval (.tmp 40) = vs 11 := (congrArg (fun x => Act.eval x (.tmp 40)) hb).trans ((fill_in _ 0 11 _ _ 40 (by kernel_rfl) rfl rfl (by simp)).trans (congrArg vs (Nat.zero_add _)))
    clear hb
    refine And.intro ?_ (And.intro ?_ (And.intro ?_ (And.intro ?_ (And.intro ?_ (And.intro ?_ (And.intro ?_ (And.intro ?_ (And.intro ?_ (And.intro ?_ (And.intro ?_ (And.intro ?_ (And.intro ?_ (trivial)))))))))))))
    · intro hp K hK
      refine g_no rfl ?_
      exact st_move (.inl rfl) (e15) (hK _ _ rfl hG (Below.refl _ _))
    · intro hp K hK
      refine g_no rfl ?_
      have e29 : b.eval (.tmp 29) = .bool false := i29.trans (hp 0 (by kernel_rfl))
      exact st_un rfl (e29) u_not (hK _ _ rfl hG (Below.refl _ _))
    · intro hp K hK
      refine g_no rfl ?_
      have e30 : b.eval (.tmp 30) = .bool (!false) := i30.trans (hp 1 (by kernel_rfl))
      exact st_move (.inl rfl) (e30) (hK _ _ rfl hG (Below.refl _ _))
    · intro hp K hK
      refine g_is (j := 2) (want := false) (c := !false) rfl (yielded_of (d := 31) rfl rfl (i31.trans (hp 2 (by kernel_rfl)))) (fun hb => ?_) (fun hb => hK _ _ (cond_no hb) hG (Below.refl _ _))
      exact absurd hb (by decide)
    · intro hp K hK
      refine g_is (j := 2) (want := false) (c := !false) rfl (yielded_of (d := 31) rfl rfl (i31.trans (hp 2 (by kernel_rfl)))) (fun hb => ?_) (fun hb => hK _ _ (cond_no hb) hG (Below.refl _ _))
      exact absurd hb (by decide)
    · intro hp K hK
      refine g_is (j := 2) (want := false) (c := !false) rfl (yielded_of (d := 31) rfl rfl (i31.trans (hp 2 (by kernel_rfl)))) (fun hb => ?_) (fun hb => hK _ _ (cond_no hb) hG (Below.refl _ _))
      exact absurd hb (by decide)
    · intro hp K hK
      refine g_is (j := 2) (want := false) (c := !false) rfl (yielded_of (d := 31) rfl rfl (i31.trans (hp 2 (by kernel_rfl)))) (fun hb => ?_) (fun hb => hK _ _ (cond_no hb) hG (Below.refl _ _))
      exact absurd hb (by decide)
    · intro hp K hK
      refine g_is (j := 2) (want := false) (c := !false) rfl (yielded_of (d := 31) rfl rfl (i31.trans (hp 2 (by kernel_rfl)))) (fun hb => ?_) (fun hb => hK _ _ (cond_no hb) hG (Below.refl _ _))
      exact absurd hb (by decide)
    · intro hp K hK
      refine g_is (j := 2) (want := false) (c := !false) rfl (yielded_of (d := 31) rfl rfl (i31.trans (hp 2 (by kernel_rfl)))) (fun hb => ?_) (fun hb => hK _ _ (cond_no hb) hG (Below.refl _ _))
      exact absurd hb (by decide)
    · intro hp K hK
      refine g_is (j := 2) (want := false) (c := !false) rfl (yielded_of (d := 31) rfl rfl (i31.trans (hp 2 (by kernel_rfl)))) (fun hb => ?_) (fun hb => hK _ _ (cond_no hb) hG (Below.refl _ _))
      exact absurd hb (by decide)
    · intro hp K hK
      refine g_is (j := 2) (want := false) (c := !false) rfl (yielded_of (d := 31) rfl rfl (i31.trans (hp 2 (by kernel_rfl)))) (fun hb => ?_) (fun hb => hK _ _ (cond_no hb) hG (Below.refl _ _))
      exact absurd hb (by decide)
    · intro hp K hK
      refine g_is (j := 2) (want := false) (c := !false) rfl (yielded_of (d := 31) rfl rfl (i31.trans (hp 2 (by kernel_rfl)))) (fun hb => ?_) (fun hb => hK _ _ (cond_no hb) hG (Below.refl _ _))
      exact absurd hb (by decide)
    · intro hp K hK
      refine g_no rfl ?_
      have e31 : b.eval (.tmp 31) = .bool (!false) := i31.trans (hp 2 (by kernel_rfl))
      have e40 : b.eval (.tmp 40) = (bif ((!false) == false) then (undef) else undef) := i40.trans (hp 11 (by kernel_rfl))
      exact st_pick rfl (e31) (by first | (rw [e40]; exact (by rfl)) | (rw [show b.eval ((Operand.tmp 40)) = _ from eval_const _]; exact (by rfl))) (hK _ _ rfl hG (Below.refl _ _))
  intro vs W hG hp b hb
  have q12 : vs 12 = .bool true := hp 12 (by decide)
  clear hp
  simp only [fill, Act.put, List.append_eq, List.cons_append, List.nil_append, List.take_succ_cons, List.take_zero, List.setIfInBounds_toArray, List.set_cons_succ, List.set_cons_zero, Nat.reduceAdd, Nat.zero_add, q12] at hb
  subst hb
  refine wpList_nil ?_
  clear q12
  refine HK4.out _ _ ?_
  clear HK4
  apply wp_cond_true rfl
  have hJ := Lib.hid hG
  clear hG hA
  go_wp2
  go_ret2
  exact ⟨rfl, hJ.out.1.bel⟩
set_option maxHeartbeats 4000000 in
theorem Taps_out (n0 n1 k0 k1 s0 s1 p0 p1 p2 p3 y x : Int) (w : World) (h : goodV n0 n1 k0 k1 s0 s1 p0 p1 p2 p3 = true) (hyx : Wd y ∧ Wd x) (ho : wiB y x (outV n0 k0 s0 p0 p2) (outV n1 k1 s1 p1 p3) = false) : Calls Try.prog 26 #[.agg #[.int .i64 n0, .int .i64 n1], .agg #[.int .i64 k0, .int .i64 k1], .agg #[.int .i64 s0, .int .i64 s1], .agg #[.int .i64 p0, .int .i64 p1, .int .i64 p2, .int .i64 p3], .int .i64 y, .int .i64 x] w (fun e w' => e = .returned (.tuple #[.slice none 0 0, .bool false]) ∧ Below w.heap.size w w') := by
  have H := Lib.hid h
  clear h
  have HO := Lib.hid ho
  clear ho
  have J := Lib.hid (O4.start n0 n1 k0 k1 s0 s1 p0 p1 p2 p3 w)
  go_enter Try.func26, Try.ntmps26
  apply wp_seq_k
  intro K1 hK1
  have HK1 := Lib.hid hK1
  clear hK1
  go_wp2
  refine HK1.out _ _ ?_
  clear HK1
  generalize (((w.alloc (box2 n0 n1)).alloc (box2 k0 k1)).alloc (box2 s0 s1)).alloc (box4 p0 p1 p2 p3) = u0 at *
  replace J := J.out
  apply wp_seq_k
  intro K2 hK2
  have HK2 := Lib.hid hK2
  clear hK2
  refine wp_listed (R := fun W W' => Below W.heap.size W W') 9 [.val (.agg #[.int .i64 n0, .int .i64 n1]), .val (.agg #[.int .i64 k0, .int .i64 k1]), .val (.agg #[.int .i64 s0, .int .i64 s1]), .val (.agg #[.int .i64 p0, .int .i64 p1, .int .i64 p2, .int .i64 p3]), .val (.tuple #[.agg #[pl n0 n1, pl k0 k1, pl s0 s1, pl p0 p1, pl (n0 + p0 + p2) (n1 + p1 + p3)], .bool true]), .val (.tuple #[.agg #[pl n0 n1, pl k0 k1, pl s0 s1, pl p0 p1, pl (n0 + p0 + p2) (n1 + p1 + p3)], .bool true]), .val (.agg #[pl n0 n1, pl k0 k1, pl s0 s1, pl p0 p1, pl (n0 + p0 + p2) (n1 + p1 + p3)]), .val (.bool true), newSpec (z5) (w.heap.size + 4)] (fun W => O4 n0 n1 k0 k1 s0 s1 p0 p1 p2 p3 w W) (by kernel_rfl) J ?_ ?_
  · intro vs W hG b hb
    have e6 : b.eval (.tmp 6) = .pointer (some ⟨w.heap.size, 0, none⟩) := (congrArg (fun x => Act.eval x (.tmp 6)) hb).trans ((fill_out _ 0 _ (by kernel_rfl)).trans rfl)
    have e7 : b.eval (.tmp 7) = .pointer (some ⟨w.heap.size + 1, 0, none⟩) := (congrArg (fun x => Act.eval x (.tmp 7)) hb).trans ((fill_out _ 0 _ (by kernel_rfl)).trans rfl)
    have e8 : b.eval (.tmp 8) = .pointer (some ⟨w.heap.size + 1 + 1, 0, none⟩) := (congrArg (fun x => Act.eval x (.tmp 8)) hb).trans ((fill_out _ 0 _ (by kernel_rfl)).trans rfl)
    have e9 : b.eval (.tmp 9) = .pointer (some ⟨w.heap.size + 1 + 1 + 1, 0, none⟩) := (congrArg (fun x => Act.eval x (.tmp 9)) hb).trans ((fill_out _ 0 _ (by kernel_rfl)).trans rfl)
    have i21 : b.eval (.tmp 21) = vs 5 := (congrArg (fun x => Act.eval x (.tmp 21)) hb).trans ((fill_in _ 0 5 _ _ 21 (by kernel_rfl) rfl rfl (by simp)).trans (congrArg vs (Nat.zero_add _)))
    have i22 : b.eval (.tmp 22) = vs 0 := (congrArg (fun x => Act.eval x (.tmp 22)) hb).trans ((fill_in _ 0 0 _ _ 22 (by kernel_rfl) rfl rfl (by simp)).trans (congrArg vs (Nat.zero_add _)))
    have i23 : b.eval (.tmp 23) = vs 1 := (congrArg (fun x => Act.eval x (.tmp 23)) hb).trans ((fill_in _ 0 1 _ _ 23 (by kernel_rfl) rfl rfl (by simp)).trans (congrArg vs (Nat.zero_add _)))
    have i24 : b.eval (.tmp 24) = vs 2 := (congrArg (fun x => Act.eval x (.tmp 24)) hb).trans ((fill_in _ 0 2 _ _ 24 (by kernel_rfl) rfl rfl (by simp)).trans (congrArg vs (Nat.zero_add _)))
    have i25 : b.eval (.tmp 25) = vs 3 := (congrArg (fun x => Act.eval x (.tmp 25)) hb).trans ((fill_in _ 0 3 _ _ 25 (by kernel_rfl) rfl rfl (by simp)).trans (congrArg vs (Nat.zero_add _)))
    have i26 : b.eval (.tmp 26) = vs 4 := (congrArg (fun x => Act.eval x (.tmp 26)) hb).trans ((fill_in _ 0 4 _ _ 26 (by kernel_rfl) rfl rfl (by simp)).trans (congrArg vs (Nat.zero_add _)))
    clear hb
    refine And.intro ?_ (And.intro ?_ (And.intro ?_ (And.intro ?_ (And.intro ?_ (And.intro ?_ (And.intro ?_ (And.intro ?_ (And.intro ?_ (trivial)))))))))
    · intro hp K hK
      refine g_no rfl ?_
      exact st_load rfl (e6) (ld2 hG.b0) (hK _ _ rfl hG (Below.refl _ _))
    · intro hp K hK
      refine g_no rfl ?_
      exact st_load rfl (e7) (ld2 hG.b1) (hK _ _ rfl hG (Below.refl _ _))
    · intro hp K hK
      refine g_no rfl ?_
      exact st_load rfl (e8) (ld2 hG.b2) (hK _ _ rfl hG (Below.refl _ _))
    · intro hp K hK
      refine g_no rfl ?_
      exact st_load rfl (e9) (ld4 hG.b3) (hK _ _ rfl hG (Below.refl _ _))
    · intro hp K hK
      refine g_no rfl ?_
      have e22 : b.eval (.tmp 22) = .agg #[.int .i64 n0, .int .i64 n1] := i22.trans (hp 0 (by kernel_rfl))
      have e23 : b.eval (.tmp 23) = .agg #[.int .i64 k0, .int .i64 k1] := i23.trans (hp 1 (by kernel_rfl))
      have e24 : b.eval (.tmp 24) = .agg #[.int .i64 s0, .int .i64 s1] := i24.trans (hp 2 (by kernel_rfl))
      have e25 : b.eval (.tmp 25) = .agg #[.int .i64 p0, .int .i64 p1, .int .i64 p2, .int .i64 p3] := i25.trans (hp 3 (by kernel_rfl))
      refine st_call rfl (by first | (simp only [List.map_toArray, List.map_cons, List.map_nil, eval_const, e22, e23, e24, e25]; done) | (simp only [List.map_toArray, List.map_cons, List.map_nil, eval_const, e22, e23, e24, e25]; rfl)) (by kernel_rfl) ?_
      refine (of_good n0 n1 k0 k1 s0 s1 p0 p1 p2 p3 _ H.out).mono ?_
      rintro e w' ⟨rfl, hb'⟩
      exact ⟨_, rfl, hK _ _ rfl (hG.step hb') hb'⟩
    · intro hp K hK
      refine g_no rfl ?_
      have e26 : b.eval (.tmp 26) = .tuple #[.agg #[pl n0 n1, pl k0 k1, pl s0 s1, pl p0 p1, pl (n0 + p0 + p2) (n1 + p1 + p3)], .bool true] := i26.trans (hp 4 (by kernel_rfl))
      exact st_move (.inl rfl) (e26) (hK _ _ rfl hG (Below.refl _ _))
    · intro hp K hK
      refine g_no rfl ?_
      have e21 : b.eval (.tmp 21) = .tuple #[.agg #[pl n0 n1, pl k0 k1, pl s0 s1, pl p0 p1, pl (n0 + p0 + p2) (n1 + p1 + p3)], .bool true] := i21.trans (hp 5 (by kernel_rfl))
      exact st_extract rfl (e21) (by kernel_rfl) (hK _ _ rfl hG (Below.refl _ _))
    · intro hp K hK
      refine g_no rfl ?_
      have e21 : b.eval (.tmp 21) = .tuple #[.agg #[pl n0 n1, pl k0 k1, pl s0 s1, pl p0 p1, pl (n0 + p0 + p2) (n1 + p1 + p3)], .bool true] := i21.trans (hp 5 (by kernel_rfl))
      exact st_extract rfl (e21) (by kernel_rfl) (hK _ _ rfl hG (Below.refl _ _))
    · intro hp K hK
      refine g_no rfl ?_
      exact st_alloc rfl (new5 _) (hK _ _ ⟨_, rfl, blk_new _ _, hG.size⟩ (hG.alloc _) ((Below.refl _ _).alloc (Nat.le_refl _) _))
  intro vs W hG hp b hb
  have q0 : vs 0 = .agg #[.int .i64 n0, .int .i64 n1] := hp 0 (by decide)
  have q1 : vs 1 = .agg #[.int .i64 k0, .int .i64 k1] := hp 1 (by decide)
  have q2 : vs 2 = .agg #[.int .i64 s0, .int .i64 s1] := hp 2 (by decide)
  have q3 : vs 3 = .agg #[.int .i64 p0, .int .i64 p1, .int .i64 p2, .int .i64 p3] := hp 3 (by decide)
  have q4 : vs 4 = .tuple #[.agg #[pl n0 n1, pl k0 k1, pl s0 s1, pl p0 p1, pl (n0 + p0 + p2) (n1 + p1 + p3)], .bool true] := hp 4 (by decide)
  have q5 : vs 5 = .tuple #[.agg #[pl n0 n1, pl k0 k1, pl s0 s1, pl p0 p1, pl (n0 + p0 + p2) (n1 + p1 + p3)], .bool true] := hp 5 (by decide)
  have q6 : vs 6 = .agg #[pl n0 n1, pl k0 k1, pl s0 s1, pl p0 p1, pl (n0 + p0 + p2) (n1 + p1 + p3)] := hp 6 (by decide)
  have q7 : vs 7 = .bool true := hp 7 (by decide)
  have q8 : ∃ gg, (vs 8) = .pointer (some ⟨gg, 0, none⟩) ∧ W.heap[gg]? = some (z5) ∧ w.heap.size + 4 ≤ gg := hp 8 (by decide)
  clear hp
  simp only [fill, Act.put, List.append_eq, List.cons_append, List.nil_append, List.take_succ_cons, List.take_zero, List.setIfInBounds_toArray, List.set_cons_succ, List.set_cons_zero, Nat.reduceAdd, Nat.zero_add, q0, q1, q2, q3, q4, q5, q6, q7] at hb
  subst hb
  simp only [List.append_eq, List.cons_append, List.nil_append, List.drop_succ_cons, List.drop_zero]
  clear q0 q1 q2 q3 q4 q5 q6 q7
  obtain ⟨g, hv, A, hg⟩ := q8
  rw [hv]
  clear hv J
  have z0 := zc0 A
  have y'0 := zf0 A
  have z1 := zc1 A
  have y'1 := zf1 A
  have z2 := zc2 A
  have y'2 := zf2 A
  have z3 := zc3 A
  have y'3 := zf3 A
  have z4 := zc4 A
  have y'4 := zf4 A
  have hJ := Lib.hid hG
  clear hG
  go_wp2
  replace hJ := hJ.out
  clear z0 y'0 z1 y'1 z2 y'2 z3 y'3 z4 y'4
  have hG := (((((hJ.set hg 0 (pl n0 n1)).set hg 1 (pl k0 k1)).set hg 2 (pl s0 s1)).set hg 3 (pl p0 p1)).set hg 4 (pl (n0 + p0 + p2) (n1 + p1 + p3)))
  have hA : (((((W.setCell ⟨g, 0, none⟩ (pl n0 n1)).setCell ⟨g, 1, none⟩ (pl k0 k1)).setCell ⟨g, 2, none⟩ (pl s0 s1)).setCell ⟨g, 3, none⟩ (pl p0 p1)).setCell ⟨g, 4, none⟩ (pl (n0 + p0 + p2) (n1 + p1 + p3))).heap[g]? = some (.cells #[pl n0 n1, pl k0 k1, pl s0 s1, pl p0 p1, pl (n0 + p0 + p2) (n1 + p1 + p3)] 53 (0, 0)) := z5_put A _ _ _ _ _ _ _ _ _ _
  generalize ((((W.setCell ⟨g, 0, none⟩ (pl n0 n1)).setCell ⟨g, 1, none⟩ (pl k0 k1)).setCell ⟨g, 2, none⟩ (pl s0 s1)).setCell ⟨g, 3, none⟩ (pl p0 p1)).setCell ⟨g, 4, none⟩ (pl (n0 + p0 + p2) (n1 + p1 + p3)) = V at *
  clear hJ A
  refine HK2.out _ _ ?_
  clear HK2
  apply wp_seq_k
  intro K3 hK3
  have HK3 := Lib.hid hK3
  clear hK3
  apply wp_seq_k
  intro K4 hK4
  have HK4 := Lib.hid hK4
  clear hK4
  refine wp_drawn (R := fun W W' => Below W.heap.size W W') 13 [.val (.bool true), .val (.bool (!true)), .val (.bool (!true)), .val ((bif ((!true) == false) then (.int .i64 y) else undef)), .val ((bif ((!true) == false) then (.int .i64 x) else undef)), .val ((bif ((!true) == false) then (.agg #[.int .i64 y, .int .i64 x]) else undef)), .val ((bif ((!true) == false) then (pl y x) else undef)), .val ((bif ((!true) == false) then (.agg #[pl n0 n1, pl k0 k1, pl s0 s1, pl p0 p1, pl (n0 + p0 + p2) (n1 + p1 + p3)]) else undef)), .val ((bif ((!true) == false) then (.agg #[.int .i64 (outV n0 k0 s0 p0 p2), .int .i64 (outV n1 k1 s1 p1 p3)]) else undef)), .val ((bif ((!true) == false) then (pl (outV n0 k0 s0 p0 p2) (outV n1 k1 s1 p1 p3)) else undef)), .val ((bif ((!true) == false) then (.bool false) else undef)), .val ((bif ((!true) == false) then (.bool (!false)) else undef)), .val (.bool true)] (fun W => O4 n0 n1 k0 k1 s0 s1 p0 p1 p2 p3 w W ∧ W.heap[g]? = some (.cells #[pl n0 n1, pl k0 k1, pl s0 s1, pl p0 p1, pl (n0 + p0 + p2) (n1 + p1 + p3)] 53 (0, 0))) rfl (by kernel_rfl) ⟨hG.drew, hA⟩ ?_ ?_
  · intro vs W hG b hb
    have e4 : b.eval (.tmp 4) = .int .i64 y := (congrArg (fun x => Act.eval x (.tmp 4)) hb).trans ((fill_out _ 0 _ (by kernel_rfl)).trans rfl)
    have e5 : b.eval (.tmp 5) = .int .i64 x := (congrArg (fun x => Act.eval x (.tmp 5)) hb).trans ((fill_out _ 0 _ (by kernel_rfl)).trans rfl)
    have e14 : b.eval (.tmp 14) = .pointer (some ⟨g, 0, none⟩) := (congrArg (fun x => Act.eval x (.tmp 14)) hb).trans ((fill_out _ 0 _ (by kernel_rfl)).trans rfl)
    have e15 : b.eval (.tmp 15) = .bool true := (congrArg (fun x => Act.eval x (.tmp 15)) hb).trans ((fill_out _ 0 _ (by kernel_rfl)).trans rfl)
    have i29 : b.eval (.tmp 29) = vs 0 := (congrArg (fun x => Act.eval x (.tmp 29)) hb).trans ((fill_in _ 0 0 _ _ 29 (by kernel_rfl) rfl rfl (by simp)).trans (congrArg vs (Nat.zero_add _)))
    have i30 : b.eval (.tmp 30) = vs 1 := (congrArg (fun x => Act.eval x (.tmp 30)) hb).trans ((fill_in _ 0 1 _ _ 30 (by kernel_rfl) rfl rfl (by simp)).trans (congrArg vs (Nat.zero_add _)))
    have i31 : b.eval (.tmp 31) = vs 2 := (congrArg (fun x => Act.eval x (.tmp 31)) hb).trans ((fill_in _ 0 2 _ _ 31 (by kernel_rfl) rfl rfl (by simp)).trans (congrArg vs (Nat.zero_add _)))
    have i32 : b.eval (.tmp 32) = vs 3 := (congrArg (fun x => Act.eval x (.tmp 32)) hb).trans ((fill_in _ 0 3 _ _ 32 (by kernel_rfl) rfl rfl (by simp)).trans (congrArg vs (Nat.zero_add _)))
    have i33 : b.eval (.tmp 33) = vs 4 := (congrArg (fun x => Act.eval x (.tmp 33)) hb).trans ((fill_in _ 0 4 _ _ 33 (by kernel_rfl) rfl rfl (by simp)).trans (congrArg vs (Nat.zero_add _)))
    have i34 : b.eval (.tmp 34) = vs 5 := (congrArg (fun x => Act.eval x (.tmp 34)) hb).trans ((fill_in _ 0 5 _ _ 34 (by kernel_rfl) rfl rfl (by simp)).trans (congrArg vs (Nat.zero_add _)))
    have i35 : b.eval (.tmp 35) = vs 6 := (congrArg (fun x => Act.eval x (.tmp 35)) hb).trans ((fill_in _ 0 6 _ _ 35 (by kernel_rfl) rfl rfl (by simp)).trans (congrArg vs (Nat.zero_add _)))
    have i36 : b.eval (.tmp 36) = vs 7 := (congrArg (fun x => Act.eval x (.tmp 36)) hb).trans ((fill_in _ 0 7 _ _ 36 (by kernel_rfl) rfl rfl (by simp)).trans (congrArg vs (Nat.zero_add _)))
    have i37 : b.eval (.tmp 37) = vs 8 := (congrArg (fun x => Act.eval x (.tmp 37)) hb).trans ((fill_in _ 0 8 _ _ 37 (by kernel_rfl) rfl rfl (by simp)).trans (congrArg vs (Nat.zero_add _)))
    have i38 : b.eval (.tmp 38) = vs 9 := (congrArg (fun x => Act.eval x (.tmp 38)) hb).trans ((fill_in _ 0 9 _ _ 38 (by kernel_rfl) rfl rfl (by simp)).trans (congrArg vs (Nat.zero_add _)))
    have i39 : b.eval (.tmp 39) = vs 10 := (congrArg (fun x => Act.eval x (.tmp 39)) hb).trans ((fill_in _ 0 10 _ _ 39 (by kernel_rfl) rfl rfl (by simp)).trans (congrArg vs (Nat.zero_add _)))
    have i40 : b.eval (.tmp 40) = vs 11 := (congrArg (fun x => Act.eval x (.tmp 40)) hb).trans ((fill_in _ 0 11 _ _ 40 (by kernel_rfl) rfl rfl (by simp)).trans (congrArg vs (Nat.zero_add _)))
    clear hb
    refine And.intro ?_ (And.intro ?_ (And.intro ?_ (And.intro ?_ (And.intro ?_ (And.intro ?_ (And.intro ?_ (And.intro ?_ (And.intro ?_ (And.intro ?_ (And.intro ?_ (And.intro ?_ (And.intro ?_ (trivial)))))))))))))
    · intro hp K hK
      refine g_no rfl ?_
      exact st_move (.inl rfl) (e15) (hK _ _ rfl hG (Below.refl _ _))
    · intro hp K hK
      refine g_no rfl ?_
      have e29 : b.eval (.tmp 29) = .bool true := i29.trans (hp 0 (by kernel_rfl))
      exact st_un rfl (e29) u_not (hK _ _ rfl hG (Below.refl _ _))
    · intro hp K hK
      refine g_no rfl ?_
      have e30 : b.eval (.tmp 30) = .bool (!true) := i30.trans (hp 1 (by kernel_rfl))
      exact st_move (.inl rfl) (e30) (hK _ _ rfl hG (Below.refl _ _))
    · intro hp K hK
      refine g_is (j := 2) (want := false) (c := !true) rfl (yielded_of (d := 31) rfl rfl (i31.trans (hp 2 (by kernel_rfl)))) (fun hb => ?_) (fun hb => hK _ _ (cond_no hb) hG (Below.refl _ _))
      exact st_move (.inl rfl) (e4) (hK _ _ (cond_yes hb).symm hG (Below.refl _ _))
    · intro hp K hK
      refine g_is (j := 2) (want := false) (c := !true) rfl (yielded_of (d := 31) rfl rfl (i31.trans (hp 2 (by kernel_rfl)))) (fun hb => ?_) (fun hb => hK _ _ (cond_no hb) hG (Below.refl _ _))
      exact st_move (.inl rfl) (e5) (hK _ _ (cond_yes hb).symm hG (Below.refl _ _))
    · intro hp K hK
      refine g_is (j := 2) (want := false) (c := !true) rfl (yielded_of (d := 31) rfl rfl (i31.trans (hp 2 (by kernel_rfl)))) (fun hb => ?_) (fun hb => hK _ _ (cond_no hb) hG (Below.refl _ _))
      have e32 : b.eval (.tmp 32) = (bif ((!true) == false) then (.int .i64 y) else undef) := i32.trans (hp 3 (by kernel_rfl))
      replace e32 := e32.trans (cond_yes hb)
      have e33 : b.eval (.tmp 33) = (bif ((!true) == false) then (.int .i64 x) else undef) := i33.trans (hp 4 (by kernel_rfl))
      replace e33 := e33.trans (cond_yes hb)
      exact st_build rfl (by first | (simp only [List.map_toArray, List.map_cons, List.map_nil, eval_const, e32, e33]; done) | (simp only [List.map_toArray, List.map_cons, List.map_nil, eval_const, e32, e33]; rfl)) (by kernel_rfl) (hK _ _ (cond_yes hb).symm hG (Below.refl _ _))
    · intro hp K hK
      refine g_is (j := 2) (want := false) (c := !true) rfl (yielded_of (d := 31) rfl rfl (i31.trans (hp 2 (by kernel_rfl)))) (fun hb => ?_) (fun hb => hK _ _ (cond_no hb) hG (Below.refl _ _))
      have e34 : b.eval (.tmp 34) = (bif ((!true) == false) then (.agg #[.int .i64 y, .int .i64 x]) else undef) := i34.trans (hp 5 (by kernel_rfl))
      replace e34 := e34.trans (cond_yes hb)
      refine st_call rfl (by first | (simp only [List.map_toArray, List.map_cons, List.map_nil, eval_const, e34]; done) | (simp only [List.map_toArray, List.map_cons, List.map_nil, eval_const, e34]; rfl)) (by kernel_rfl) ?_
      refine (plane_is y x _).mono ?_
      rintro e w' ⟨rfl, hb'⟩
      exact ⟨_, rfl, hK _ _ (cond_yes hb).symm ⟨hG.1.step hb', blk_below hG.2 hb'⟩ hb'⟩
    · intro hp K hK
      refine g_is (j := 2) (want := false) (c := !true) rfl (yielded_of (d := 31) rfl rfl (i31.trans (hp 2 (by kernel_rfl)))) (fun hb => ?_) (fun hb => hK _ _ (cond_no hb) hG (Below.refl _ _))
      exact st_load rfl (e14) (ld5 hG.2) (hK _ _ (cond_yes hb).symm hG (Below.refl _ _))
    · intro hp K hK
      refine g_is (j := 2) (want := false) (c := !true) rfl (yielded_of (d := 31) rfl rfl (i31.trans (hp 2 (by kernel_rfl)))) (fun hb => ?_) (fun hb => hK _ _ (cond_no hb) hG (Below.refl _ _))
      have e36 : b.eval (.tmp 36) = (bif ((!true) == false) then (.agg #[pl n0 n1, pl k0 k1, pl s0 s1, pl p0 p1, pl (n0 + p0 + p2) (n1 + p1 + p3)]) else undef) := i36.trans (hp 7 (by kernel_rfl))
      replace e36 := e36.trans (cond_yes hb)
      have hg0 := goodV_iff.1 H.out
      refine st_call rfl (by first | (simp only [List.map_toArray, List.map_cons, List.map_nil, eval_const, e36]; done) | (simp only [List.map_toArray, List.map_cons, List.map_nil, eval_const, e36]; rfl)) (by kernel_rfl) ?_
      refine (out_is n0 n1 k0 k1 s0 s1 p0 p1 (n0 + p0 + p2) (n1 + p1 + p3) _ ⟨by omega, by omega⟩ ⟨by omega, by omega⟩ ⟨by omega, by omega⟩ ⟨by omega, by omega⟩ ⟨by omega, by omega⟩ ⟨by omega, by omega⟩).mono ?_
      rintro e w' ⟨rfl, hb'⟩
      exact ⟨_, rfl, hK _ _ (cond_yes hb).symm ⟨hG.1.step hb', blk_below hG.2 hb'⟩ hb'⟩
    · intro hp K hK
      refine g_is (j := 2) (want := false) (c := !true) rfl (yielded_of (d := 31) rfl rfl (i31.trans (hp 2 (by kernel_rfl)))) (fun hb => ?_) (fun hb => hK _ _ (cond_no hb) hG (Below.refl _ _))
      have e37 : b.eval (.tmp 37) = (bif ((!true) == false) then (.agg #[.int .i64 (outV n0 k0 s0 p0 p2), .int .i64 (outV n1 k1 s1 p1 p3)]) else undef) := i37.trans (hp 8 (by kernel_rfl))
      replace e37 := e37.trans (cond_yes hb)
      refine st_call rfl (by first | (simp only [List.map_toArray, List.map_cons, List.map_nil, eval_const, e37]; done) | (simp only [List.map_toArray, List.map_cons, List.map_nil, eval_const, e37]; rfl)) (by kernel_rfl) ?_
      refine (plane_is (outV n0 k0 s0 p0 p2) (outV n1 k1 s1 p1 p3) _).mono ?_
      rintro e w' ⟨rfl, hb'⟩
      exact ⟨_, rfl, hK _ _ (cond_yes hb).symm ⟨hG.1.step hb', blk_below hG.2 hb'⟩ hb'⟩
    · intro hp K hK
      refine g_is (j := 2) (want := false) (c := !true) rfl (yielded_of (d := 31) rfl rfl (i31.trans (hp 2 (by kernel_rfl)))) (fun hb => ?_) (fun hb => hK _ _ (cond_no hb) hG (Below.refl _ _))
      have e35 : b.eval (.tmp 35) = (bif ((!true) == false) then (pl y x) else undef) := i35.trans (hp 6 (by kernel_rfl))
      replace e35 := e35.trans (cond_yes hb)
      have e38 : b.eval (.tmp 38) = (bif ((!true) == false) then (pl (outV n0 k0 s0 p0 p2) (outV n1 k1 s1 p1 p3)) else undef) := i38.trans (hp 9 (by kernel_rfl))
      replace e38 := e38.trans (cond_yes hb)
      have hg0 := goodV_iff.1 H.out
      obtain ⟨h00, h01, h02, h03, h04, h10, h11, h12, h13, h14, ha, hb2⟩ := hg0
      have o0 := out_mid ⟨h00, h01, h02, h03, h04, ha⟩
      have o1 := out_mid ⟨h10, h11, h12, h13, h14, hb2⟩
      refine st_call rfl (by first | (simp only [List.map_toArray, List.map_cons, List.map_nil, eval_const, e35, e38]; done) | (simp only [List.map_toArray, List.map_cons, List.map_nil, eval_const, e35, e38]; rfl)) (by kernel_rfl) ?_
      refine ((within_is y x (outV n0 k0 s0 p0 p2) (outV n1 k1 s1 p1 p3) _ hyx.1 hyx.2 ⟨by omega, by omega⟩ ⟨by omega, by omega⟩).mono (fun e w' h => ⟨h.1.trans (by rw [HO.out]), h.2⟩ : ∀ e w', _ → (e = .returned (.bool false) ∧ w' = _))).mono ?_
      rintro e w' ⟨rfl, rfl⟩
      exact ⟨_, rfl, hK _ _ (cond_yes hb).symm hG (Below.refl _ _)⟩
    · intro hp K hK
      refine g_is (j := 2) (want := false) (c := !true) rfl (yielded_of (d := 31) rfl rfl (i31.trans (hp 2 (by kernel_rfl)))) (fun hb => ?_) (fun hb => hK _ _ (cond_no hb) hG (Below.refl _ _))
      have e39 : b.eval (.tmp 39) = (bif ((!true) == false) then (.bool false) else undef) := i39.trans (hp 10 (by kernel_rfl))
      replace e39 := e39.trans (cond_yes hb)
      exact st_un rfl (e39) u_not (hK _ _ (cond_yes hb).symm hG (Below.refl _ _))
    · intro hp K hK
      refine g_no rfl ?_
      have e31 : b.eval (.tmp 31) = .bool (!true) := i31.trans (hp 2 (by kernel_rfl))
      have e40 : b.eval (.tmp 40) = (bif ((!true) == false) then (.bool (!false)) else undef) := i40.trans (hp 11 (by kernel_rfl))
      exact st_pick rfl (e31) (by first | (rw [e40]; exact (by rfl)) | (rw [show b.eval ((Operand.tmp 40)) = _ from eval_const _]; exact (by rfl))) (hK _ _ rfl hG (Below.refl _ _))
  intro vs W hG hp b hb
  have q12 : vs 12 = .bool true := hp 12 (by decide)
  clear hp
  simp only [fill, Act.put, List.append_eq, List.cons_append, List.nil_append, List.take_succ_cons, List.take_zero, List.setIfInBounds_toArray, List.set_cons_succ, List.set_cons_zero, Nat.reduceAdd, Nat.zero_add, q12] at hb
  subst hb
  refine wpList_nil ?_
  clear q12
  refine HK4.out _ _ ?_
  clear HK4
  apply wp_cond_true rfl
  have hJ := Lib.hid hG
  clear hG hA
  go_wp2
  go_ret2
  exact ⟨rfl, hJ.out.1.bel⟩
set_option maxHeartbeats 16000000 in
theorem Taps_good (n0 n1 k0 k1 s0 s1 p0 p1 p2 p3 y x : Int) (w : World) (h : goodV n0 n1 k0 k1 s0 s1 p0 p1 p2 p3 = true) (hy : 0 ≤ y ∧ y < (outV n0 k0 s0 p0 p2)) (hx : 0 ≤ x ∧ x < (outV n1 k1 s1 p1 p3)) : Calls Try.prog 26 #[.agg #[.int .i64 n0, .int .i64 n1], .agg #[.int .i64 k0, .int .i64 k1], .agg #[.int .i64 s0, .int .i64 s1], .agg #[.int .i64 p0, .int .i64 p1, .int .i64 p2, .int .i64 p3], .int .i64 y, .int .i64 x] w (TapsRet2 (tapsL n0 n1 k1 s0 s1 p0 p1 y x (k0 * k1).toNat) w) := by
  have hg0 := goodV_iff.1 h
  obtain ⟨h00, h01, h02, h03, h04, h10, h11, h12, h13, h14, ha, hb2⟩ := hg0
  have o0 := out_mid ⟨h00, h01, h02, h03, h04, ha⟩
  have o1 := out_mid ⟨h10, h11, h12, h13, h14, hb2⟩
  have hk := prodb (a := k0) (b := k1) (c := 8) (d := 8) (by omega) (by omega)
  have hys := prodb (a := y) (b := s0) (c := 200) (d := 8) (by omega) (by omega)
  have hxs := prodb (a := x) (b := s1) (c := 200) (d := 8) (by omega) (by omega)
  have hw : wiB y x (outV n0 k0 s0 p0 p2) (outV n1 k1 s1 p1 p3) = true := by
    unfold wiB
    rw [decide_eq_true hy.1, decide_eq_true hx.1, decide_eq_true hy.2, decide_eq_true hx.2]
    rfl
  have HW := Lib.hid hw
  have BB : (1 ≤ k0 ∧ k0 ≤ 8) ∧ (1 ≤ k1 ∧ k1 ≤ 8) ∧ (0 ≤ k0 * k1 ∧ k0 * k1 ≤ 8 * 8) ∧ (0 ≤ y * s0 ∧ y * s0 ≤ 200 * 8) ∧ (0 ≤ x * s1 ∧ x * s1 ≤ 200 * 8) ∧ (0 ≤ y ∧ y ≤ 200) ∧ (0 ≤ x ∧ x ≤ 200) ∧ (0 ≤ s0 ∧ s0 ≤ 8) ∧ (0 ≤ s1 ∧ s1 ≤ 8) ∧ (0 ≤ p0 ∧ p0 ≤ 8) ∧ (0 ≤ p1 ∧ p1 ≤ 8) ∧ (1 ≤ n0 ∧ n0 ≤ 64) ∧ (1 ≤ n1 ∧ n1 ≤ 64) ∧ (1 ≤ (outV n0 k0 s0 p0 p2) ∧ (outV n0 k0 s0 p0 p2) ≤ 200) ∧ (1 ≤ (outV n1 k1 s1 p1 p3) ∧ (outV n1 k1 s1 p1 p3) ≤ 200) := by omega
  have HB := Lib.hid BB
  clear h00 h01 h02 h03 h04 h10 h11 h12 h13 h14 ha hb2 o0 o1 hk hys hxs hw BB hy hx
  obtain ⟨i0, hi, hz0, hz1, hz2⟩ := info_parts info34
  have II := Lib.hid hi
  have IZ := Lib.hid (And.intro hz0 (And.intro hz1 hz2))
  clear hi hz0 hz1 hz2
  have H := Lib.hid h
  clear h
  have J := Lib.hid (O4.start n0 n1 k0 k1 s0 s1 p0 p1 p2 p3 w)
  go_enter Try.func26, Try.ntmps26
  apply wp_seq_k
  intro K1 hK1
  have HK1 := Lib.hid hK1
  clear hK1
  go_wp2
  refine HK1.out _ _ ?_
  clear HK1
  generalize (((w.alloc (box2 n0 n1)).alloc (box2 k0 k1)).alloc (box2 s0 s1)).alloc (box4 p0 p1 p2 p3) = u0 at *
  replace J := J.out
  apply wp_seq_k
  intro K2 hK2
  have HK2 := Lib.hid hK2
  clear hK2
  refine wp_listed (R := fun W W' => Below W.heap.size W W') 9 [.val (.agg #[.int .i64 n0, .int .i64 n1]), .val (.agg #[.int .i64 k0, .int .i64 k1]), .val (.agg #[.int .i64 s0, .int .i64 s1]), .val (.agg #[.int .i64 p0, .int .i64 p1, .int .i64 p2, .int .i64 p3]), .val (.tuple #[.agg #[pl n0 n1, pl k0 k1, pl s0 s1, pl p0 p1, pl (n0 + p0 + p2) (n1 + p1 + p3)], .bool true]), .val (.tuple #[.agg #[pl n0 n1, pl k0 k1, pl s0 s1, pl p0 p1, pl (n0 + p0 + p2) (n1 + p1 + p3)], .bool true]), .val (.agg #[pl n0 n1, pl k0 k1, pl s0 s1, pl p0 p1, pl (n0 + p0 + p2) (n1 + p1 + p3)]), .val (.bool true), newSpec (z5) (w.heap.size + 4)] (fun W => O4 n0 n1 k0 k1 s0 s1 p0 p1 p2 p3 w W) (by kernel_rfl) J ?_ ?_
  · intro vs W hG b hb
    have e6 : b.eval (.tmp 6) = .pointer (some ⟨w.heap.size, 0, none⟩) := (congrArg (fun x => Act.eval x (.tmp 6)) hb).trans ((fill_out _ 0 _ (by kernel_rfl)).trans rfl)
    have e7 : b.eval (.tmp 7) = .pointer (some ⟨w.heap.size + 1, 0, none⟩) := (congrArg (fun x => Act.eval x (.tmp 7)) hb).trans ((fill_out _ 0 _ (by kernel_rfl)).trans rfl)
    have e8 : b.eval (.tmp 8) = .pointer (some ⟨w.heap.size + 1 + 1, 0, none⟩) := (congrArg (fun x => Act.eval x (.tmp 8)) hb).trans ((fill_out _ 0 _ (by kernel_rfl)).trans rfl)
    have e9 : b.eval (.tmp 9) = .pointer (some ⟨w.heap.size + 1 + 1 + 1, 0, none⟩) := (congrArg (fun x => Act.eval x (.tmp 9)) hb).trans ((fill_out _ 0 _ (by kernel_rfl)).trans rfl)
    have i21 : b.eval (.tmp 21) = vs 5 := (congrArg (fun x => Act.eval x (.tmp 21)) hb).trans ((fill_in _ 0 5 _ _ 21 (by kernel_rfl) rfl rfl (by simp)).trans (congrArg vs (Nat.zero_add _)))
    have i22 : b.eval (.tmp 22) = vs 0 := (congrArg (fun x => Act.eval x (.tmp 22)) hb).trans ((fill_in _ 0 0 _ _ 22 (by kernel_rfl) rfl rfl (by simp)).trans (congrArg vs (Nat.zero_add _)))
    have i23 : b.eval (.tmp 23) = vs 1 := (congrArg (fun x => Act.eval x (.tmp 23)) hb).trans ((fill_in _ 0 1 _ _ 23 (by kernel_rfl) rfl rfl (by simp)).trans (congrArg vs (Nat.zero_add _)))
    have i24 : b.eval (.tmp 24) = vs 2 := (congrArg (fun x => Act.eval x (.tmp 24)) hb).trans ((fill_in _ 0 2 _ _ 24 (by kernel_rfl) rfl rfl (by simp)).trans (congrArg vs (Nat.zero_add _)))
    have i25 : b.eval (.tmp 25) = vs 3 := (congrArg (fun x => Act.eval x (.tmp 25)) hb).trans ((fill_in _ 0 3 _ _ 25 (by kernel_rfl) rfl rfl (by simp)).trans (congrArg vs (Nat.zero_add _)))
    have i26 : b.eval (.tmp 26) = vs 4 := (congrArg (fun x => Act.eval x (.tmp 26)) hb).trans ((fill_in _ 0 4 _ _ 26 (by kernel_rfl) rfl rfl (by simp)).trans (congrArg vs (Nat.zero_add _)))
    clear hb
    refine And.intro ?_ (And.intro ?_ (And.intro ?_ (And.intro ?_ (And.intro ?_ (And.intro ?_ (And.intro ?_ (And.intro ?_ (And.intro ?_ (trivial)))))))))
    · intro hp K hK
      refine g_no rfl ?_
      exact st_load rfl (e6) (ld2 hG.b0) (hK _ _ rfl hG (Below.refl _ _))
    · intro hp K hK
      refine g_no rfl ?_
      exact st_load rfl (e7) (ld2 hG.b1) (hK _ _ rfl hG (Below.refl _ _))
    · intro hp K hK
      refine g_no rfl ?_
      exact st_load rfl (e8) (ld2 hG.b2) (hK _ _ rfl hG (Below.refl _ _))
    · intro hp K hK
      refine g_no rfl ?_
      exact st_load rfl (e9) (ld4 hG.b3) (hK _ _ rfl hG (Below.refl _ _))
    · intro hp K hK
      refine g_no rfl ?_
      have e22 : b.eval (.tmp 22) = .agg #[.int .i64 n0, .int .i64 n1] := i22.trans (hp 0 (by kernel_rfl))
      have e23 : b.eval (.tmp 23) = .agg #[.int .i64 k0, .int .i64 k1] := i23.trans (hp 1 (by kernel_rfl))
      have e24 : b.eval (.tmp 24) = .agg #[.int .i64 s0, .int .i64 s1] := i24.trans (hp 2 (by kernel_rfl))
      have e25 : b.eval (.tmp 25) = .agg #[.int .i64 p0, .int .i64 p1, .int .i64 p2, .int .i64 p3] := i25.trans (hp 3 (by kernel_rfl))
      refine st_call rfl (by first | (simp only [List.map_toArray, List.map_cons, List.map_nil, eval_const, e22, e23, e24, e25]; done) | (simp only [List.map_toArray, List.map_cons, List.map_nil, eval_const, e22, e23, e24, e25]; rfl)) (by kernel_rfl) ?_
      refine (of_good n0 n1 k0 k1 s0 s1 p0 p1 p2 p3 _ H.out).mono ?_
      rintro e w' ⟨rfl, hb'⟩
      exact ⟨_, rfl, hK _ _ rfl (hG.step hb') hb'⟩
    · intro hp K hK
      refine g_no rfl ?_
      have e26 : b.eval (.tmp 26) = .tuple #[.agg #[pl n0 n1, pl k0 k1, pl s0 s1, pl p0 p1, pl (n0 + p0 + p2) (n1 + p1 + p3)], .bool true] := i26.trans (hp 4 (by kernel_rfl))
      exact st_move (.inl rfl) (e26) (hK _ _ rfl hG (Below.refl _ _))
    · intro hp K hK
      refine g_no rfl ?_
      have e21 : b.eval (.tmp 21) = .tuple #[.agg #[pl n0 n1, pl k0 k1, pl s0 s1, pl p0 p1, pl (n0 + p0 + p2) (n1 + p1 + p3)], .bool true] := i21.trans (hp 5 (by kernel_rfl))
      exact st_extract rfl (e21) (by kernel_rfl) (hK _ _ rfl hG (Below.refl _ _))
    · intro hp K hK
      refine g_no rfl ?_
      have e21 : b.eval (.tmp 21) = .tuple #[.agg #[pl n0 n1, pl k0 k1, pl s0 s1, pl p0 p1, pl (n0 + p0 + p2) (n1 + p1 + p3)], .bool true] := i21.trans (hp 5 (by kernel_rfl))
      exact st_extract rfl (e21) (by kernel_rfl) (hK _ _ rfl hG (Below.refl _ _))
    · intro hp K hK
      refine g_no rfl ?_
      exact st_alloc rfl (new5 _) (hK _ _ ⟨_, rfl, blk_new _ _, hG.size⟩ (hG.alloc _) ((Below.refl _ _).alloc (Nat.le_refl _) _))
  intro vs W hG hp b hb
  have q0 : vs 0 = .agg #[.int .i64 n0, .int .i64 n1] := hp 0 (by decide)
  have q1 : vs 1 = .agg #[.int .i64 k0, .int .i64 k1] := hp 1 (by decide)
  have q2 : vs 2 = .agg #[.int .i64 s0, .int .i64 s1] := hp 2 (by decide)
  have q3 : vs 3 = .agg #[.int .i64 p0, .int .i64 p1, .int .i64 p2, .int .i64 p3] := hp 3 (by decide)
  have q4 : vs 4 = .tuple #[.agg #[pl n0 n1, pl k0 k1, pl s0 s1, pl p0 p1, pl (n0 + p0 + p2) (n1 + p1 + p3)], .bool true] := hp 4 (by decide)
  have q5 : vs 5 = .tuple #[.agg #[pl n0 n1, pl k0 k1, pl s0 s1, pl p0 p1, pl (n0 + p0 + p2) (n1 + p1 + p3)], .bool true] := hp 5 (by decide)
  have q6 : vs 6 = .agg #[pl n0 n1, pl k0 k1, pl s0 s1, pl p0 p1, pl (n0 + p0 + p2) (n1 + p1 + p3)] := hp 6 (by decide)
  have q7 : vs 7 = .bool true := hp 7 (by decide)
  have q8 : ∃ gg, (vs 8) = .pointer (some ⟨gg, 0, none⟩) ∧ W.heap[gg]? = some (z5) ∧ w.heap.size + 4 ≤ gg := hp 8 (by decide)
  clear hp
  simp only [fill, Act.put, List.append_eq, List.cons_append, List.nil_append, List.take_succ_cons, List.take_zero, List.setIfInBounds_toArray, List.set_cons_succ, List.set_cons_zero, Nat.reduceAdd, Nat.zero_add, q0, q1, q2, q3, q4, q5, q6, q7] at hb
  subst hb
  simp only [List.append_eq, List.cons_append, List.nil_append, List.drop_succ_cons, List.drop_zero]
  clear q0 q1 q2 q3 q4 q5 q6 q7
  obtain ⟨g, hv, A, hg⟩ := q8
  rw [hv]
  clear hv J
  have z0 := zc0 A
  have y'0 := zf0 A
  have z1 := zc1 A
  have y'1 := zf1 A
  have z2 := zc2 A
  have y'2 := zf2 A
  have z3 := zc3 A
  have y'3 := zf3 A
  have z4 := zc4 A
  have y'4 := zf4 A
  have hJ := Lib.hid hG
  clear hG
  go_wp2
  replace hJ := hJ.out
  clear z0 y'0 z1 y'1 z2 y'2 z3 y'3 z4 y'4
  have hG := (((((hJ.set hg 0 (pl n0 n1)).set hg 1 (pl k0 k1)).set hg 2 (pl s0 s1)).set hg 3 (pl p0 p1)).set hg 4 (pl (n0 + p0 + p2) (n1 + p1 + p3)))
  have hA : (((((W.setCell ⟨g, 0, none⟩ (pl n0 n1)).setCell ⟨g, 1, none⟩ (pl k0 k1)).setCell ⟨g, 2, none⟩ (pl s0 s1)).setCell ⟨g, 3, none⟩ (pl p0 p1)).setCell ⟨g, 4, none⟩ (pl (n0 + p0 + p2) (n1 + p1 + p3))).heap[g]? = some (.cells #[pl n0 n1, pl k0 k1, pl s0 s1, pl p0 p1, pl (n0 + p0 + p2) (n1 + p1 + p3)] 53 (0, 0)) := z5_put A _ _ _ _ _ _ _ _ _ _
  generalize ((((W.setCell ⟨g, 0, none⟩ (pl n0 n1)).setCell ⟨g, 1, none⟩ (pl k0 k1)).setCell ⟨g, 2, none⟩ (pl s0 s1)).setCell ⟨g, 3, none⟩ (pl p0 p1)).setCell ⟨g, 4, none⟩ (pl (n0 + p0 + p2) (n1 + p1 + p3)) = V at *
  clear hJ A
  refine HK2.out _ _ ?_
  clear HK2
  apply wp_seq_k
  intro K3 hK3
  have HK3 := Lib.hid hK3
  clear hK3
  apply wp_seq_k
  intro K4 hK4
  have HK4 := Lib.hid hK4
  clear hK4
  refine wp_drawn (R := fun W W' => Below W.heap.size W W') 13 [.val (.bool true), .val (.bool (!true)), .val (.bool (!true)), .val ((bif ((!true) == false) then (.int .i64 y) else undef)), .val ((bif ((!true) == false) then (.int .i64 x) else undef)), .val ((bif ((!true) == false) then (.agg #[.int .i64 y, .int .i64 x]) else undef)), .val ((bif ((!true) == false) then (pl y x) else undef)), .val ((bif ((!true) == false) then (.agg #[pl n0 n1, pl k0 k1, pl s0 s1, pl p0 p1, pl (n0 + p0 + p2) (n1 + p1 + p3)]) else undef)), .val ((bif ((!true) == false) then (.agg #[.int .i64 (outV n0 k0 s0 p0 p2), .int .i64 (outV n1 k1 s1 p1 p3)]) else undef)), .val ((bif ((!true) == false) then (pl (outV n0 k0 s0 p0 p2) (outV n1 k1 s1 p1 p3)) else undef)), .val ((bif ((!true) == false) then (.bool true) else undef)), .val ((bif ((!true) == false) then (.bool (!true)) else undef)), .val (.bool false)] (fun W => O4 n0 n1 k0 k1 s0 s1 p0 p1 p2 p3 w W ∧ W.heap[g]? = some (.cells #[pl n0 n1, pl k0 k1, pl s0 s1, pl p0 p1, pl (n0 + p0 + p2) (n1 + p1 + p3)] 53 (0, 0))) rfl (by kernel_rfl) ⟨hG.drew, hA⟩ ?_ ?_
  · intro vs W hG b hb
    have e4 : b.eval (.tmp 4) = .int .i64 y := (congrArg (fun x => Act.eval x (.tmp 4)) hb).trans ((fill_out _ 0 _ (by kernel_rfl)).trans rfl)
    have e5 : b.eval (.tmp 5) = .int .i64 x := (congrArg (fun x => Act.eval x (.tmp 5)) hb).trans ((fill_out _ 0 _ (by kernel_rfl)).trans rfl)
    have e14 : b.eval (.tmp 14) = .pointer (some ⟨g, 0, none⟩) := (congrArg (fun x => Act.eval x (.tmp 14)) hb).trans ((fill_out _ 0 _ (by kernel_rfl)).trans rfl)
    have e15 : b.eval (.tmp 15) = .bool true := (congrArg (fun x => Act.eval x (.tmp 15)) hb).trans ((fill_out _ 0 _ (by kernel_rfl)).trans rfl)
    have i29 : b.eval (.tmp 29) = vs 0 := (congrArg (fun x => Act.eval x (.tmp 29)) hb).trans ((fill_in _ 0 0 _ _ 29 (by kernel_rfl) rfl rfl (by simp)).trans (congrArg vs (Nat.zero_add _)))
    have i30 : b.eval (.tmp 30) = vs 1 := (congrArg (fun x => Act.eval x (.tmp 30)) hb).trans ((fill_in _ 0 1 _ _ 30 (by kernel_rfl) rfl rfl (by simp)).trans (congrArg vs (Nat.zero_add _)))
    have i31 : b.eval (.tmp 31) = vs 2 := (congrArg (fun x => Act.eval x (.tmp 31)) hb).trans ((fill_in _ 0 2 _ _ 31 (by kernel_rfl) rfl rfl (by simp)).trans (congrArg vs (Nat.zero_add _)))
    have i32 : b.eval (.tmp 32) = vs 3 := (congrArg (fun x => Act.eval x (.tmp 32)) hb).trans ((fill_in _ 0 3 _ _ 32 (by kernel_rfl) rfl rfl (by simp)).trans (congrArg vs (Nat.zero_add _)))
    have i33 : b.eval (.tmp 33) = vs 4 := (congrArg (fun x => Act.eval x (.tmp 33)) hb).trans ((fill_in _ 0 4 _ _ 33 (by kernel_rfl) rfl rfl (by simp)).trans (congrArg vs (Nat.zero_add _)))
    have i34 : b.eval (.tmp 34) = vs 5 := (congrArg (fun x => Act.eval x (.tmp 34)) hb).trans ((fill_in _ 0 5 _ _ 34 (by kernel_rfl) rfl rfl (by simp)).trans (congrArg vs (Nat.zero_add _)))
    have i35 : b.eval (.tmp 35) = vs 6 := (congrArg (fun x => Act.eval x (.tmp 35)) hb).trans ((fill_in _ 0 6 _ _ 35 (by kernel_rfl) rfl rfl (by simp)).trans (congrArg vs (Nat.zero_add _)))
    have i36 : b.eval (.tmp 36) = vs 7 := (congrArg (fun x => Act.eval x (.tmp 36)) hb).trans ((fill_in _ 0 7 _ _ 36 (by kernel_rfl) rfl rfl (by simp)).trans (congrArg vs (Nat.zero_add _)))
    have i37 : b.eval (.tmp 37) = vs 8 := (congrArg (fun x => Act.eval x (.tmp 37)) hb).trans ((fill_in _ 0 8 _ _ 37 (by kernel_rfl) rfl rfl (by simp)).trans (congrArg vs (Nat.zero_add _)))
    have i38 : b.eval (.tmp 38) = vs 9 := (congrArg (fun x => Act.eval x (.tmp 38)) hb).trans ((fill_in _ 0 9 _ _ 38 (by kernel_rfl) rfl rfl (by simp)).trans (congrArg vs (Nat.zero_add _)))
    have i39 : b.eval (.tmp 39) = vs 10 := (congrArg (fun x => Act.eval x (.tmp 39)) hb).trans ((fill_in _ 0 10 _ _ 39 (by kernel_rfl) rfl rfl (by simp)).trans (congrArg vs (Nat.zero_add _)))
    have i40 : b.eval (.tmp 40) = vs 11 := (congrArg (fun x => Act.eval x (.tmp 40)) hb).trans ((fill_in _ 0 11 _ _ 40 (by kernel_rfl) rfl rfl (by simp)).trans (congrArg vs (Nat.zero_add _)))
    clear hb
    refine And.intro ?_ (And.intro ?_ (And.intro ?_ (And.intro ?_ (And.intro ?_ (And.intro ?_ (And.intro ?_ (And.intro ?_ (And.intro ?_ (And.intro ?_ (And.intro ?_ (And.intro ?_ (And.intro ?_ (trivial)))))))))))))
    · intro hp K hK
      refine g_no rfl ?_
      exact st_move (.inl rfl) (e15) (hK _ _ rfl hG (Below.refl _ _))
    · intro hp K hK
      refine g_no rfl ?_
      have e29 : b.eval (.tmp 29) = .bool true := i29.trans (hp 0 (by kernel_rfl))
      exact st_un rfl (e29) u_not (hK _ _ rfl hG (Below.refl _ _))
    · intro hp K hK
      refine g_no rfl ?_
      have e30 : b.eval (.tmp 30) = .bool (!true) := i30.trans (hp 1 (by kernel_rfl))
      exact st_move (.inl rfl) (e30) (hK _ _ rfl hG (Below.refl _ _))
    · intro hp K hK
      refine g_is (j := 2) (want := false) (c := !true) rfl (yielded_of (d := 31) rfl rfl (i31.trans (hp 2 (by kernel_rfl)))) (fun hb => ?_) (fun hb => hK _ _ (cond_no hb) hG (Below.refl _ _))
      exact st_move (.inl rfl) (e4) (hK _ _ (cond_yes hb).symm hG (Below.refl _ _))
    · intro hp K hK
      refine g_is (j := 2) (want := false) (c := !true) rfl (yielded_of (d := 31) rfl rfl (i31.trans (hp 2 (by kernel_rfl)))) (fun hb => ?_) (fun hb => hK _ _ (cond_no hb) hG (Below.refl _ _))
      exact st_move (.inl rfl) (e5) (hK _ _ (cond_yes hb).symm hG (Below.refl _ _))
    · intro hp K hK
      refine g_is (j := 2) (want := false) (c := !true) rfl (yielded_of (d := 31) rfl rfl (i31.trans (hp 2 (by kernel_rfl)))) (fun hb => ?_) (fun hb => hK _ _ (cond_no hb) hG (Below.refl _ _))
      have e32 : b.eval (.tmp 32) = (bif ((!true) == false) then (.int .i64 y) else undef) := i32.trans (hp 3 (by kernel_rfl))
      replace e32 := e32.trans (cond_yes hb)
      have e33 : b.eval (.tmp 33) = (bif ((!true) == false) then (.int .i64 x) else undef) := i33.trans (hp 4 (by kernel_rfl))
      replace e33 := e33.trans (cond_yes hb)
      exact st_build rfl (by first | (simp only [List.map_toArray, List.map_cons, List.map_nil, eval_const, e32, e33]; done) | (simp only [List.map_toArray, List.map_cons, List.map_nil, eval_const, e32, e33]; rfl)) (by kernel_rfl) (hK _ _ (cond_yes hb).symm hG (Below.refl _ _))
    · intro hp K hK
      refine g_is (j := 2) (want := false) (c := !true) rfl (yielded_of (d := 31) rfl rfl (i31.trans (hp 2 (by kernel_rfl)))) (fun hb => ?_) (fun hb => hK _ _ (cond_no hb) hG (Below.refl _ _))
      have e34 : b.eval (.tmp 34) = (bif ((!true) == false) then (.agg #[.int .i64 y, .int .i64 x]) else undef) := i34.trans (hp 5 (by kernel_rfl))
      replace e34 := e34.trans (cond_yes hb)
      refine st_call rfl (by first | (simp only [List.map_toArray, List.map_cons, List.map_nil, eval_const, e34]; done) | (simp only [List.map_toArray, List.map_cons, List.map_nil, eval_const, e34]; rfl)) (by kernel_rfl) ?_
      refine (plane_is y x _).mono ?_
      rintro e w' ⟨rfl, hb'⟩
      exact ⟨_, rfl, hK _ _ (cond_yes hb).symm ⟨hG.1.step hb', blk_below hG.2 hb'⟩ hb'⟩
    · intro hp K hK
      refine g_is (j := 2) (want := false) (c := !true) rfl (yielded_of (d := 31) rfl rfl (i31.trans (hp 2 (by kernel_rfl)))) (fun hb => ?_) (fun hb => hK _ _ (cond_no hb) hG (Below.refl _ _))
      exact st_load rfl (e14) (ld5 hG.2) (hK _ _ (cond_yes hb).symm hG (Below.refl _ _))
    · intro hp K hK
      refine g_is (j := 2) (want := false) (c := !true) rfl (yielded_of (d := 31) rfl rfl (i31.trans (hp 2 (by kernel_rfl)))) (fun hb => ?_) (fun hb => hK _ _ (cond_no hb) hG (Below.refl _ _))
      have e36 : b.eval (.tmp 36) = (bif ((!true) == false) then (.agg #[pl n0 n1, pl k0 k1, pl s0 s1, pl p0 p1, pl (n0 + p0 + p2) (n1 + p1 + p3)]) else undef) := i36.trans (hp 7 (by kernel_rfl))
      replace e36 := e36.trans (cond_yes hb)
      have hg0 := goodV_iff.1 H.out
      refine st_call rfl (by first | (simp only [List.map_toArray, List.map_cons, List.map_nil, eval_const, e36]; done) | (simp only [List.map_toArray, List.map_cons, List.map_nil, eval_const, e36]; rfl)) (by kernel_rfl) ?_
      refine (out_is n0 n1 k0 k1 s0 s1 p0 p1 (n0 + p0 + p2) (n1 + p1 + p3) _ ⟨by omega, by omega⟩ ⟨by omega, by omega⟩ ⟨by omega, by omega⟩ ⟨by omega, by omega⟩ ⟨by omega, by omega⟩ ⟨by omega, by omega⟩).mono ?_
      rintro e w' ⟨rfl, hb'⟩
      exact ⟨_, rfl, hK _ _ (cond_yes hb).symm ⟨hG.1.step hb', blk_below hG.2 hb'⟩ hb'⟩
    · intro hp K hK
      refine g_is (j := 2) (want := false) (c := !true) rfl (yielded_of (d := 31) rfl rfl (i31.trans (hp 2 (by kernel_rfl)))) (fun hb => ?_) (fun hb => hK _ _ (cond_no hb) hG (Below.refl _ _))
      have e37 : b.eval (.tmp 37) = (bif ((!true) == false) then (.agg #[.int .i64 (outV n0 k0 s0 p0 p2), .int .i64 (outV n1 k1 s1 p1 p3)]) else undef) := i37.trans (hp 8 (by kernel_rfl))
      replace e37 := e37.trans (cond_yes hb)
      refine st_call rfl (by first | (simp only [List.map_toArray, List.map_cons, List.map_nil, eval_const, e37]; done) | (simp only [List.map_toArray, List.map_cons, List.map_nil, eval_const, e37]; rfl)) (by kernel_rfl) ?_
      refine (plane_is (outV n0 k0 s0 p0 p2) (outV n1 k1 s1 p1 p3) _).mono ?_
      rintro e w' ⟨rfl, hb'⟩
      exact ⟨_, rfl, hK _ _ (cond_yes hb).symm ⟨hG.1.step hb', blk_below hG.2 hb'⟩ hb'⟩
    · intro hp K hK
      refine g_is (j := 2) (want := false) (c := !true) rfl (yielded_of (d := 31) rfl rfl (i31.trans (hp 2 (by kernel_rfl)))) (fun hb => ?_) (fun hb => hK _ _ (cond_no hb) hG (Below.refl _ _))
      have e35 : b.eval (.tmp 35) = (bif ((!true) == false) then (pl y x) else undef) := i35.trans (hp 6 (by kernel_rfl))
      replace e35 := e35.trans (cond_yes hb)
      have e38 : b.eval (.tmp 38) = (bif ((!true) == false) then (pl (outV n0 k0 s0 p0 p2) (outV n1 k1 s1 p1 p3)) else undef) := i38.trans (hp 9 (by kernel_rfl))
      replace e38 := e38.trans (cond_yes hb)
      have B_ := HB.out
      refine st_call rfl (by first | (simp only [List.map_toArray, List.map_cons, List.map_nil, eval_const, e35, e38]; done) | (simp only [List.map_toArray, List.map_cons, List.map_nil, eval_const, e35, e38]; rfl)) (by kernel_rfl) ?_
      refine ((within_is y x (outV n0 k0 s0 p0 p2) (outV n1 k1 s1 p1 p3) _ (Sm.wd ⟨by omega, by omega⟩) (Sm.wd ⟨by omega, by omega⟩) ⟨by omega, by omega⟩ ⟨by omega, by omega⟩).mono (fun e w' h => ⟨h.1.trans (by rw [HW.out]), h.2⟩ : ∀ e w', _ → (e = .returned (.bool true) ∧ w' = _))).mono ?_
      rintro e w' ⟨rfl, rfl⟩
      exact ⟨_, rfl, hK _ _ (cond_yes hb).symm hG (Below.refl _ _)⟩
    · intro hp K hK
      refine g_is (j := 2) (want := false) (c := !true) rfl (yielded_of (d := 31) rfl rfl (i31.trans (hp 2 (by kernel_rfl)))) (fun hb => ?_) (fun hb => hK _ _ (cond_no hb) hG (Below.refl _ _))
      have e39 : b.eval (.tmp 39) = (bif ((!true) == false) then (.bool true) else undef) := i39.trans (hp 10 (by kernel_rfl))
      replace e39 := e39.trans (cond_yes hb)
      exact st_un rfl (e39) u_not (hK _ _ (cond_yes hb).symm hG (Below.refl _ _))
    · intro hp K hK
      refine g_no rfl ?_
      have e31 : b.eval (.tmp 31) = .bool (!true) := i31.trans (hp 2 (by kernel_rfl))
      have e40 : b.eval (.tmp 40) = (bif ((!true) == false) then (.bool (!true)) else undef) := i40.trans (hp 11 (by kernel_rfl))
      exact st_pick rfl (e31) (by first | (rw [e40]; exact (by rfl)) | (rw [show b.eval ((Operand.tmp 40)) = _ from eval_const _]; exact (by rfl))) (hK _ _ rfl hG (Below.refl _ _))
  intro vs W hG hp b hb
  have q12 : vs 12 = .bool false := hp 12 (by decide)
  clear hp
  simp only [fill, Act.put, List.append_eq, List.cons_append, List.nil_append, List.take_succ_cons, List.take_zero, List.setIfInBounds_toArray, List.set_cons_succ, List.set_cons_zero, Nat.reduceAdd, Nat.zero_add, q12] at hb
  subst hb
  refine wpList_nil ?_
  clear q12
  clear hA
  refine HK4.out _ _ ?_
  clear HK4
  apply wp_cond_false rfl
  apply wp_skip
  simp only [Exit.then]
  refine HK3.out _ _ ?_
  clear HK3
  apply wp_seq_k
  intro K5 hK5
  have HK5 := Lib.hid hK5
  clear hK5
  have hJ := Lib.hid hG
  clear hG
  go_wp2
  replace hJ := hJ.out
  refine HK5.out _ _ ?_
  clear HK5
  apply wp_seq_k
  intro K6 hK6
  have HK6 := Lib.hid hK6
  clear hK6
  refine wp_listed (R := fun W W' => Below W.heap.size W W') 5 [.val (.agg #[pl n0 n1, pl k0 k1, pl s0 s1, pl p0 p1, pl (n0 + p0 + p2) (n1 + p1 + p3)]), .val (.int .i64 y), .val (.int .i64 x), .val (pl (y * s0 - p0) (x * s1 - p1)), .val (pl (y * s0 - p0) (x * s1 - p1))] (fun W => O4 n0 n1 k0 k1 s0 s1 p0 p1 p2 p3 w W ∧ W.heap[g]? = some (.cells #[pl n0 n1, pl k0 k1, pl s0 s1, pl p0 p1, pl (n0 + p0 + p2) (n1 + p1 + p3)] 53 (0, 0))) (by kernel_rfl) hJ ?_ ?_
  · intro vs W hG b hb
    have e4 : b.eval (.tmp 4) = .int .i64 y := (congrArg (fun x => Act.eval x (.tmp 4)) hb).trans ((fill_out _ 0 _ (by kernel_rfl)).trans rfl)
    have e5 : b.eval (.tmp 5) = .int .i64 x := (congrArg (fun x => Act.eval x (.tmp 5)) hb).trans ((fill_out _ 0 _ (by kernel_rfl)).trans rfl)
    have e14 : b.eval (.tmp 14) = .pointer (some ⟨g, 0, none⟩) := (congrArg (fun x => Act.eval x (.tmp 14)) hb).trans ((fill_out _ 0 _ (by kernel_rfl)).trans rfl)
    have i42 : b.eval (.tmp 42) = vs 0 := (congrArg (fun x => Act.eval x (.tmp 42)) hb).trans ((fill_in _ 0 0 _ _ 42 (by kernel_rfl) rfl rfl (by simp)).trans (congrArg vs (Nat.zero_add _)))
    have i43 : b.eval (.tmp 43) = vs 1 := (congrArg (fun x => Act.eval x (.tmp 43)) hb).trans ((fill_in _ 0 1 _ _ 43 (by kernel_rfl) rfl rfl (by simp)).trans (congrArg vs (Nat.zero_add _)))
    have i44 : b.eval (.tmp 44) = vs 2 := (congrArg (fun x => Act.eval x (.tmp 44)) hb).trans ((fill_in _ 0 2 _ _ 44 (by kernel_rfl) rfl rfl (by simp)).trans (congrArg vs (Nat.zero_add _)))
    have i45 : b.eval (.tmp 45) = vs 3 := (congrArg (fun x => Act.eval x (.tmp 45)) hb).trans ((fill_in _ 0 3 _ _ 45 (by kernel_rfl) rfl rfl (by simp)).trans (congrArg vs (Nat.zero_add _)))
    clear hb
    refine And.intro ?_ (And.intro ?_ (And.intro ?_ (And.intro ?_ (And.intro ?_ (trivial)))))
    · intro hp K hK
      refine g_no rfl ?_
      exact st_load rfl (e14) (ld5 hG.2) (hK _ _ rfl hG (Below.refl _ _))
    · intro hp K hK
      refine g_no rfl ?_
      exact st_move (.inl rfl) (e4) (hK _ _ rfl hG (Below.refl _ _))
    · intro hp K hK
      refine g_no rfl ?_
      exact st_move (.inl rfl) (e5) (hK _ _ rfl hG (Below.refl _ _))
    · intro hp K hK
      refine g_no rfl ?_
      have e42 : b.eval (.tmp 42) = .agg #[pl n0 n1, pl k0 k1, pl s0 s1, pl p0 p1, pl (n0 + p0 + p2) (n1 + p1 + p3)] := i42.trans (hp 0 (by kernel_rfl))
      have e43 : b.eval (.tmp 43) = .int .i64 y := i43.trans (hp 1 (by kernel_rfl))
      have e44 : b.eval (.tmp 44) = .int .i64 x := i44.trans (hp 2 (by kernel_rfl))
      have B_ := HB.out
      refine st_call rfl (by first | (simp only [List.map_toArray, List.map_cons, List.map_nil, eval_const, e42, e43, e44]; done) | (simp only [List.map_toArray, List.map_cons, List.map_nil, eval_const, e42, e43, e44]; rfl)) (by kernel_rfl) ?_
      refine (corner_is n0 n1 k0 k1 s0 s1 p0 p1 (n0 + p0 + p2) (n1 + p1 + p3) y x _ ⟨by omega, by omega⟩ ⟨by omega, by omega⟩ ⟨by omega, by omega⟩ ⟨by omega, by omega⟩ ⟨by omega, by omega⟩ ⟨by omega, by omega⟩).mono ?_
      rintro e w' ⟨rfl, hb'⟩
      exact ⟨_, rfl, hK _ _ rfl ⟨hG.1.step hb', blk_below hG.2 hb'⟩ hb'⟩
    · intro hp K hK
      refine g_no rfl ?_
      have e45 : b.eval (.tmp 45) = pl (y * s0 - p0) (x * s1 - p1) := i45.trans (hp 3 (by kernel_rfl))
      exact st_move (.inr rfl) (e45) (hK _ _ rfl hG (Below.refl _ _))
  intro vs W hG hp b hb
  have q4 : vs 4 = pl (y * s0 - p0) (x * s1 - p1) := hp 4 (by decide)
  clear hp
  simp only [fill, Act.put, List.append_eq, List.cons_append, List.nil_append, List.take_succ_cons, List.take_zero, List.setIfInBounds_toArray, List.set_cons_succ, List.set_cons_zero, Nat.reduceAdd, Nat.zero_add, q4] at hb
  subst hb
  refine wpList_nil ?_
  clear q4
  clear hJ
  refine HK6.out _ _ ?_
  clear HK6
  apply wp_seq_k
  intro K7 hK7
  have HK7 := Lib.hid hK7
  clear hK7
  apply wp_seq_k
  intro K8 hK8
  have HK8 := Lib.hid hK8
  clear hK8
  refine wp_listed (R := fun W W' => Below W.heap.size W W') 3 [.val (.pointer (some ⟨w.heap.size + 1, 0, none⟩)), .val (.int .i64 k0), .val (.int .i64 0)] (fun W => O4 n0 n1 k0 k1 s0 s1 p0 p1 p2 p3 w W ∧ W.heap[g]? = some (.cells #[pl n0 n1, pl k0 k1, pl s0 s1, pl p0 p1, pl (n0 + p0 + p2) (n1 + p1 + p3)] 53 (0, 0))) (by kernel_rfl) hG ?_ ?_
  · intro vs W hG b hb
    have e7 : b.eval (.tmp 7) = .pointer (some ⟨w.heap.size + 1, 0, none⟩) := (congrArg (fun x => Act.eval x (.tmp 7)) hb).trans ((fill_out _ 0 _ (by kernel_rfl)).trans rfl)
    have i46 : b.eval (.tmp 46) = vs 0 := (congrArg (fun x => Act.eval x (.tmp 46)) hb).trans ((fill_in _ 0 0 _ _ 46 (by kernel_rfl) rfl rfl (by simp)).trans (congrArg vs (Nat.zero_add _)))
    clear hb
    refine And.intro ?_ (And.intro ?_ (And.intro ?_ (trivial)))
    · intro hp K hK
      refine g_no rfl ?_
      exact st_index rfl (e7) (eval_const _) (by kernel_rfl) (hK _ _ rfl hG (Below.refl _ _))
    · intro hp K hK
      refine g_no rfl ?_
      have e46 : b.eval (.tmp 46) = .pointer (some ⟨w.heap.size + 1, 0, none⟩) := i46.trans (hp 0 (by kernel_rfl))
      exact st_load rfl (e46) (ld1 ((blk_cell hG.1.b1 0).trans rfl)) (hK _ _ rfl hG (Below.refl _ _))
    · intro hp K hK
      refine g_no rfl ?_
      exact st_move (.inl rfl) (eval_const _) (hK _ _ rfl hG (Below.refl _ _))
  intro vs W hG hp b hb
  have q1 : vs 1 = .int .i64 k0 := hp 1 (by decide)
  have q2 : vs 2 = .int .i64 0 := hp 2 (by decide)
  clear hp
  simp only [fill, Act.put, List.append_eq, List.cons_append, List.nil_append, List.take_succ_cons, List.take_zero, List.setIfInBounds_toArray, List.set_cons_succ, List.set_cons_zero, Nat.reduceAdd, Nat.zero_add, q1, q2] at hb
  subst hb
  refine wpList_nil ?_
  clear q1 q2
  refine HK8.out _ _ ?_
  clear HK8
  apply wp_block
  refine wp_loopS [16, 18, 19, 20, 48, 49, 50, 51, 52, 53, 54, 55, 56, 57, 58, 59, 60, 61, 62, 63, 64, 65, 66, 67, 68, 69, 70, 71] (fun sl W => ∃ i : Nat, sl 48 = .int .i64 (i : Int) ∧ (i : Int) ≤ k0 ∧ O4 n0 n1 k0 k1 s0 s1 p0 p1 p2 p3 w W ∧ W.heap[g]? = some (.cells #[pl n0 n1, pl k0 k1, pl s0 s1, pl p0 p1, pl (n0 + p0 + p2) (n1 + p1 + p3)] 53 (0, 0)) ∧ W.ownsRow (g + 1) 34 2 (sl 16) (tapsL n0 n1 k1 s0 s1 p0 p1 y x ((i : Int) * k1).toNat).length (flat (tapsL n0 n1 k1 s0 s1 p0 p1 y x ((i : Int) * k1).toNat))) (fun sl W => Msr k0 (sl 48)) ⟨0, rfl, by have := HB.out; omega, hG.1, hG.2, by rw [show ((0 : Nat) : Int) * k1 = 0 from Int.zero_mul _]; exact ⟨rfl, .inl ⟨rfl, rfl⟩⟩⟩ ?_
  intro vs W b hb hI
  clear hG
  obtain ⟨i, h48, hik, hG1, hG2, hown⟩ := hI
  simp only [setSlots, Act.put, List.setIfInBounds_toArray, List.set_cons_succ, List.set_cons_zero] at hb
  subst hb
  replace h48 : vs 48 = .int .i64 (i : Int) := h48
  generalize hv16 : vs 16 = v16 at *
  replace hown : W.ownsRow (g + 1) 34 2 v16 (tapsL n0 n1 k1 s0 s1 p0 p1 y x ((i : Int) * k1).toNat).length (flat (tapsL n0 n1 k1 s0 s1 p0 p1 y x ((i : Int) * k1).toNat)) := hown
  clear hv16
  rw [h48]
  clear h48
  have hG := And.intro hG1 (And.intro hG2 hown)
  clear hG1 hG2 hown
  apply wp_seq_k
  intro K9 hK9
  have HK9 := Lib.hid hK9
  clear hK9
  refine wp_listed (R := fun W W' => Below W.heap.size W W') 1 [.val (.bool (decide ((i : Int) < k0)))] (fun W => O4 n0 n1 k0 k1 s0 s1 p0 p1 p2 p3 w W ∧ W.heap[g]? = some (.cells #[pl n0 n1, pl k0 k1, pl s0 s1, pl p0 p1, pl (n0 + p0 + p2) (n1 + p1 + p3)] 53 (0, 0)) ∧ W.ownsRow (g + 1) 34 2 v16 (tapsL n0 n1 k1 s0 s1 p0 p1 y x ((i : Int) * k1).toNat).length (flat (tapsL n0 n1 k1 s0 s1 p0 p1 y x ((i : Int) * k1).toNat))) (by kernel_rfl) hG ?_ ?_
  · intro vs W hG b hb
    have e47 : b.eval (.tmp 47) = .int .i64 k0 := (congrArg (fun x => Act.eval x (.tmp 47)) hb).trans ((fill_out _ 0 _ (by kernel_rfl)).trans rfl)
    have e48 : b.eval (.tmp 48) = .int .i64 (i : Int) := (congrArg (fun x => Act.eval x (.tmp 48)) hb).trans ((fill_out _ 0 _ (by kernel_rfl)).trans rfl)
    clear hb
    refine And.intro ?_ (trivial)
    · intro hp K hK
      refine g_no rfl ?_
      exact st_bin rfl (e48) (e47) b_lss (hK _ _ rfl hG (Below.refl _ _))
  intro vs W hG hp b hb
  have q0 : vs 0 = .bool (decide ((i : Int) < k0)) := hp 0 (by decide)
  clear hp
  simp only [fill, Act.put, List.append_eq, List.cons_append, List.nil_append, List.take_succ_cons, List.take_zero, List.setIfInBounds_toArray, List.set_cons_succ, List.set_cons_zero, Nat.reduceAdd, Nat.zero_add, q0] at hb
  subst hb
  refine wpList_nil ?_
  clear q0
  refine HK9.out _ _ ?_
  clear HK9
  apply wp_seq_k
  intro K10 hK10
  have HK10 := Lib.hid hK10
  clear hK10
  refine wp_cond_split rfl (fun hlt => ?_) (fun hlt => ?_)
  rotate_left
  · have hJ := Lib.hid hG
    clear hG
    have hge := of_decide_eq_false hlt
    clear hlt
    have hik2 : (i : Int) = k0 := by omega
    apply wp_exit
    simp only [Exit.inBlock, Exit.then, ↓reduceIte]
    refine HK7.out _ _ ?_
    clear HK7
    have hge := Lib.hid hge
    have hik := Lib.hid hik
    have hik2 := Lib.hid hik2
    go_wp2
    go_ret2
    replace hJ := hJ.out
    rw [hik2.out] at hJ
    exact ⟨_, rfl, ⟨hJ.2.2.1, hJ.2.2.2.imp id (fun ⟨gq, cap, cur, h1, h2, h3⟩ => ⟨gq, cap, cur, h1, by omega, h3⟩)⟩, hJ.1.bel⟩
  replace hlt := of_decide_eq_true hlt
  apply wp_skip
  simp only [Exit.then]
  refine HK10.out _ _ ?_
  clear HK10
  apply wp_seq_k
  intro K11 hK11
  have HK11 := Lib.hid hK11
  clear hK11
  apply wp_block
  apply wp_seq_k
  intro K12 hK12
  have HK12 := Lib.hid hK12
  clear hK12
  refine wp_listed (R := fun W W' => Below W.heap.size W W') 2 [.val (.int .i64 (i : Int)), .val (.int .i64 (i : Int))] (fun W => O4 n0 n1 k0 k1 s0 s1 p0 p1 p2 p3 w W ∧ W.heap[g]? = some (.cells #[pl n0 n1, pl k0 k1, pl s0 s1, pl p0 p1, pl (n0 + p0 + p2) (n1 + p1 + p3)] 53 (0, 0)) ∧ W.ownsRow (g + 1) 34 2 v16 (tapsL n0 n1 k1 s0 s1 p0 p1 y x ((i : Int) * k1).toNat).length (flat (tapsL n0 n1 k1 s0 s1 p0 p1 y x ((i : Int) * k1).toNat))) (by kernel_rfl) hG ?_ ?_
  · intro vs W hG b hb
    have e48 : b.eval (.tmp 48) = .int .i64 (i : Int) := (congrArg (fun x => Act.eval x (.tmp 48)) hb).trans ((fill_out _ 0 _ (by kernel_rfl)).trans rfl)
    have i50 : b.eval (.tmp 50) = vs 0 := (congrArg (fun x => Act.eval x (.tmp 50)) hb).trans ((fill_in _ 0 0 _ _ 50 (by kernel_rfl) rfl rfl (by simp)).trans (congrArg vs (Nat.zero_add _)))
    clear hb
    refine And.intro ?_ (And.intro ?_ (trivial))
    · intro hp K hK
      refine g_no rfl ?_
      exact st_move (.inl rfl) (e48) (hK _ _ rfl hG (Below.refl _ _))
    · intro hp K hK
      refine g_no rfl ?_
      have e50 : b.eval (.tmp 50) = .int .i64 (i : Int) := i50.trans (hp 0 (by kernel_rfl))
      exact st_move (.inr rfl) (e50) (hK _ _ rfl hG (Below.refl _ _))
  intro vs W hG hp b hb
  have q1 : vs 1 = .int .i64 (i : Int) := hp 1 (by decide)
  clear hp
  simp only [fill, Act.put, List.append_eq, List.cons_append, List.nil_append, List.take_succ_cons, List.take_zero, List.setIfInBounds_toArray, List.set_cons_succ, List.set_cons_zero, Nat.reduceAdd, Nat.zero_add, q1] at hb
  subst hb
  refine wpList_nil ?_
  clear q1
  refine HK12.out _ _ ?_
  clear HK12
  apply wp_seq_k
  intro K13 hK13
  have HK13 := Lib.hid hK13
  clear hK13
  refine wp_listed (R := fun W W' => Below W.heap.size W W') 3 [.val (.pointer (some ⟨w.heap.size + 1, 1, none⟩)), .val (.int .i64 k1), .val (.int .i64 0)] (fun W => O4 n0 n1 k0 k1 s0 s1 p0 p1 p2 p3 w W ∧ W.heap[g]? = some (.cells #[pl n0 n1, pl k0 k1, pl s0 s1, pl p0 p1, pl (n0 + p0 + p2) (n1 + p1 + p3)] 53 (0, 0)) ∧ W.ownsRow (g + 1) 34 2 v16 (tapsL n0 n1 k1 s0 s1 p0 p1 y x ((i : Int) * k1).toNat).length (flat (tapsL n0 n1 k1 s0 s1 p0 p1 y x ((i : Int) * k1).toNat))) (by kernel_rfl) hG ?_ ?_
  · intro vs W hG b hb
    have e7 : b.eval (.tmp 7) = .pointer (some ⟨w.heap.size + 1, 0, none⟩) := (congrArg (fun x => Act.eval x (.tmp 7)) hb).trans ((fill_out _ 0 _ (by kernel_rfl)).trans rfl)
    have i51 : b.eval (.tmp 51) = vs 0 := (congrArg (fun x => Act.eval x (.tmp 51)) hb).trans ((fill_in _ 0 0 _ _ 51 (by kernel_rfl) rfl rfl (by simp)).trans (congrArg vs (Nat.zero_add _)))
    clear hb
    refine And.intro ?_ (And.intro ?_ (And.intro ?_ (trivial)))
    · intro hp K hK
      refine g_no rfl ?_
      exact st_index rfl (e7) (eval_const _) (by kernel_rfl) (hK _ _ rfl hG (Below.refl _ _))
    · intro hp K hK
      refine g_no rfl ?_
      have e51 : b.eval (.tmp 51) = .pointer (some ⟨w.heap.size + 1, 1, none⟩) := i51.trans (hp 0 (by kernel_rfl))
      exact st_load rfl (e51) (ld1 ((blk_cell hG.1.b1 1).trans rfl)) (hK _ _ rfl hG (Below.refl _ _))
    · intro hp K hK
      refine g_no rfl ?_
      exact st_move (.inl rfl) (eval_const _) (hK _ _ rfl hG (Below.refl _ _))
  intro vs W hG hp b hb
  have q1 : vs 1 = .int .i64 k1 := hp 1 (by decide)
  have q2 : vs 2 = .int .i64 0 := hp 2 (by decide)
  clear hp
  simp only [fill, Act.put, List.append_eq, List.cons_append, List.nil_append, List.take_succ_cons, List.take_zero, List.setIfInBounds_toArray, List.set_cons_succ, List.set_cons_zero, Nat.reduceAdd, Nat.zero_add, q1, q2] at hb
  subst hb
  refine wpList_nil ?_
  clear q1 q2
  refine HK13.out _ _ ?_
  clear HK13
  apply wp_block
  have hG0 := hG
  clear hG
  refine wp_loopS [16, 19, 20, 49, 53, 54, 55, 56, 57, 58, 59, 60, 61, 62, 63, 64, 65, 66, 67, 68, 69, 70] (fun sl W => ∃ j : Nat, sl 53 = .int .i64 (j : Int) ∧ (j : Int) ≤ k1 ∧ O4 n0 n1 k0 k1 s0 s1 p0 p1 p2 p3 w W ∧ W.heap[g]? = some (.cells #[pl n0 n1, pl k0 k1, pl s0 s1, pl p0 p1, pl (n0 + p0 + p2) (n1 + p1 + p3)] 53 (0, 0)) ∧ W.ownsRow (g + 1) 34 2 (sl 16) (tapsL n0 n1 k1 s0 s1 p0 p1 y x ((i : Int) * k1 + (j : Int)).toNat).length (flat (tapsL n0 n1 k1 s0 s1 p0 p1 y x ((i : Int) * k1 + (j : Int)).toNat))) (fun sl W => Msr k1 (sl 53)) ⟨0, rfl, by have := HB.out; omega, hG0.1, hG0.2.1, by rw [show (i : Int) * k1 + ((0 : Nat) : Int) = (i : Int) * k1 from Int.add_zero _]; exact hG0.2.2⟩ ?_
  intro vs2 W b hb hI
  clear hG0
  obtain ⟨j, h53, hjk, hG1, hG2, hown⟩ := hI
  simp only [setSlots, Act.put, List.setIfInBounds_toArray, List.set_cons_succ, List.set_cons_zero] at hb
  subst hb
  replace h53 : vs2 53 = .int .i64 (j : Int) := h53
  generalize hv16 : vs2 16 = v17 at *
  replace hown : W.ownsRow (g + 1) 34 2 v17 (tapsL n0 n1 k1 s0 s1 p0 p1 y x ((i : Int) * k1 + (j : Int)).toNat).length (flat (tapsL n0 n1 k1 s0 s1 p0 p1 y x ((i : Int) * k1 + (j : Int)).toNat)) := hown
  clear hv16
  rw [h53]
  clear h53
  have hG := And.intro hG1 (And.intro hG2 hown)
  clear hG1 hG2 hown
  apply wp_seq_k
  intro K14 hK14
  have HK14 := Lib.hid hK14
  clear hK14
  refine wp_listed (R := fun W W' => Below W.heap.size W W') 1 [.val (.bool (decide ((j : Int) < k1)))] (fun W => O4 n0 n1 k0 k1 s0 s1 p0 p1 p2 p3 w W ∧ W.heap[g]? = some (.cells #[pl n0 n1, pl k0 k1, pl s0 s1, pl p0 p1, pl (n0 + p0 + p2) (n1 + p1 + p3)] 53 (0, 0)) ∧ W.ownsRow (g + 1) 34 2 v17 (tapsL n0 n1 k1 s0 s1 p0 p1 y x ((i : Int) * k1 + (j : Int)).toNat).length (flat (tapsL n0 n1 k1 s0 s1 p0 p1 y x ((i : Int) * k1 + (j : Int)).toNat))) (by kernel_rfl) hG ?_ ?_
  · intro vs W hG b hb
    have e52 : b.eval (.tmp 52) = .int .i64 k1 := (congrArg (fun x => Act.eval x (.tmp 52)) hb).trans ((fill_out _ 0 _ (by kernel_rfl)).trans rfl)
    have e53 : b.eval (.tmp 53) = .int .i64 (j : Int) := (congrArg (fun x => Act.eval x (.tmp 53)) hb).trans ((fill_out _ 0 _ (by kernel_rfl)).trans rfl)
    clear hb
    refine And.intro ?_ (trivial)
    · intro hp K hK
      refine g_no rfl ?_
      exact st_bin rfl (e53) (e52) b_lss (hK _ _ rfl hG (Below.refl _ _))
  intro vs W hG hp b hb
  have q0 : vs 0 = .bool (decide ((j : Int) < k1)) := hp 0 (by decide)
  clear hp
  simp only [fill, Act.put, List.append_eq, List.cons_append, List.nil_append, List.take_succ_cons, List.take_zero, List.setIfInBounds_toArray, List.set_cons_succ, List.set_cons_zero, Nat.reduceAdd, Nat.zero_add, q0] at hb
  subst hb
  refine wpList_nil ?_
  clear q0
  refine HK14.out _ _ ?_
  clear HK14
  apply wp_seq_k
  intro K15 hK15
  have HK15 := Lib.hid hK15
  clear hK15
  refine wp_cond_split rfl (fun hjlt => ?_) (fun hjlt => ?_)
  rotate_left
  · have hJ := Lib.hid hG
    clear hG
    have hge := of_decide_eq_false hjlt
    clear hjlt
    have hj2 : (j : Int) = k1 := by omega
    apply wp_exit
    simp only [Exit.inBlock, Exit.then, ↓reduceIte]
    refine HK11.out _ _ ?_
    clear HK11
    have hl : IntKind.i64.wrap ((i : Int) + 1) = (i : Int) + 1 := IntWalk.i64_in _ (by have := HB.out; omega)
    have hge := Lib.hid hge
    have hjk := Lib.hid hjk
    have hj2 := Lib.hid hj2
    have hlt := Lib.hid hlt
    go_wp2
    refine ⟨loop_frame (by kernel_rfl), ⟨i + 1, by show Value.int .i64 _ = _; simp, by have := hlt.out; omega, hJ.out.1, hJ.out.2.1, ?_⟩, ?_⟩
    · rw [show ((i + 1 : Nat) : Int) * k1 = (i : Int) * k1 + (j : Int) by rw [hj2.out, Int.natCast_add, Int.add_mul]; simp]
      exact hJ.out.2.2
    · exact Msr.lt hlt.out
  replace hjlt := of_decide_eq_true hjlt
  apply wp_skip
  simp only [Exit.then]
  refine HK15.out _ _ ?_
  clear HK15
  apply wp_seq_k
  intro K16 hK16
  have HK16 := Lib.hid hK16
  clear hK16
  apply wp_block
  apply wp_seq_k
  intro K17 hK17
  have HK17 := Lib.hid hK17
  clear hK17
  refine wp_listed (R := fun W W' => Below W.heap.size W W') 2 [.val (.int .i64 (j : Int)), .val (.int .i64 (j : Int))] (fun W => O4 n0 n1 k0 k1 s0 s1 p0 p1 p2 p3 w W ∧ W.heap[g]? = some (.cells #[pl n0 n1, pl k0 k1, pl s0 s1, pl p0 p1, pl (n0 + p0 + p2) (n1 + p1 + p3)] 53 (0, 0)) ∧ W.ownsRow (g + 1) 34 2 v17 (tapsL n0 n1 k1 s0 s1 p0 p1 y x ((i : Int) * k1 + (j : Int)).toNat).length (flat (tapsL n0 n1 k1 s0 s1 p0 p1 y x ((i : Int) * k1 + (j : Int)).toNat))) (by kernel_rfl) hG ?_ ?_
  · intro vs W hG b hb
    have e53 : b.eval (.tmp 53) = .int .i64 (j : Int) := (congrArg (fun x => Act.eval x (.tmp 53)) hb).trans ((fill_out _ 0 _ (by kernel_rfl)).trans rfl)
    have i55 : b.eval (.tmp 55) = vs 0 := (congrArg (fun x => Act.eval x (.tmp 55)) hb).trans ((fill_in _ 0 0 _ _ 55 (by kernel_rfl) rfl rfl (by simp)).trans (congrArg vs (Nat.zero_add _)))
    clear hb
    refine And.intro ?_ (And.intro ?_ (trivial))
    · intro hp K hK
      refine g_no rfl ?_
      exact st_move (.inl rfl) (e53) (hK _ _ rfl hG (Below.refl _ _))
    · intro hp K hK
      refine g_no rfl ?_
      have e55 : b.eval (.tmp 55) = .int .i64 (j : Int) := i55.trans (hp 0 (by kernel_rfl))
      exact st_move (.inr rfl) (e55) (hK _ _ rfl hG (Below.refl _ _))
  intro vs W hG hp b hb
  have q1 : vs 1 = .int .i64 (j : Int) := hp 1 (by decide)
  clear hp
  simp only [fill, Act.put, List.append_eq, List.cons_append, List.nil_append, List.take_succ_cons, List.take_zero, List.setIfInBounds_toArray, List.set_cons_succ, List.set_cons_zero, Nat.reduceAdd, Nat.zero_add, q1] at hb
  subst hb
  refine wpList_nil ?_
  clear q1
  refine HK17.out _ _ ?_
  clear HK17
  apply wp_seq_k
  intro K18 hK18
  have HK18 := Lib.hid hK18
  clear hK18
  have hW0 := hG
  clear hG
  generalize hWW : W = W0 at hW0 ⊢
  clear hWW
  refine wp_listed (R := fun W W' => Below W.heap.size W W') 4 [.val (.int .i64 (i : Int)), .val (.int .i64 (j : Int)), .val (.agg #[.int .i64 (i : Int), .int .i64 (j : Int)]), newSpec (box2 0 0) (W0.heap.size)] (fun W => Below W0.heap.size W0 W) (by kernel_rfl) (Below.refl _ _) ?_ ?_
  · intro vs W hG b hb
    have e18 : b.eval (.tmp 18) = .int .i64 (i : Int) := (congrArg (fun x => Act.eval x (.tmp 18)) hb).trans ((fill_out _ 0 _ (by kernel_rfl)).trans rfl)
    have e19 : b.eval (.tmp 19) = .int .i64 (j : Int) := (congrArg (fun x => Act.eval x (.tmp 19)) hb).trans ((fill_out _ 0 _ (by kernel_rfl)).trans rfl)
    have i56 : b.eval (.tmp 56) = vs 0 := (congrArg (fun x => Act.eval x (.tmp 56)) hb).trans ((fill_in _ 0 0 _ _ 56 (by kernel_rfl) rfl rfl (by simp)).trans (congrArg vs (Nat.zero_add _)))
    have i57 : b.eval (.tmp 57) = vs 1 := (congrArg (fun x => Act.eval x (.tmp 57)) hb).trans ((fill_in _ 0 1 _ _ 57 (by kernel_rfl) rfl rfl (by simp)).trans (congrArg vs (Nat.zero_add _)))
    clear hb
    refine And.intro ?_ (And.intro ?_ (And.intro ?_ (And.intro ?_ (trivial))))
    · intro hp K hK
      refine g_no rfl ?_
      exact st_move (.inl rfl) (e18) (hK _ _ rfl hG (Below.refl _ _))
    · intro hp K hK
      refine g_no rfl ?_
      exact st_move (.inl rfl) (e19) (hK _ _ rfl hG (Below.refl _ _))
    · intro hp K hK
      refine g_no rfl ?_
      have e56 : b.eval (.tmp 56) = .int .i64 (i : Int) := i56.trans (hp 0 (by kernel_rfl))
      have e57 : b.eval (.tmp 57) = .int .i64 (j : Int) := i57.trans (hp 1 (by kernel_rfl))
      exact st_build rfl (by first | (simp only [List.map_toArray, List.map_cons, List.map_nil, eval_const, e56, e57]; done) | (simp only [List.map_toArray, List.map_cons, List.map_nil, eval_const, e56, e57]; rfl)) (by kernel_rfl) (hK _ _ rfl hG (Below.refl _ _))
    · intro hp K hK
      refine g_no rfl ?_
      exact st_alloc rfl (new2 _) (hK _ _ ⟨_, rfl, blk_new _ _, hG.size⟩ (hG.alloc hG.size _) ((Below.refl _ _).alloc (Nat.le_refl _) _))
  intro vs W hG hp b hb
  have q0 : vs 0 = .int .i64 (i : Int) := hp 0 (by decide)
  have q1 : vs 1 = .int .i64 (j : Int) := hp 1 (by decide)
  have q2 : vs 2 = .agg #[.int .i64 (i : Int), .int .i64 (j : Int)] := hp 2 (by decide)
  have q3 : ∃ gg, (vs 3) = .pointer (some ⟨gg, 0, none⟩) ∧ W.heap[gg]? = some (box2 0 0) ∧ W0.heap.size ≤ gg := hp 3 (by decide)
  clear hp
  simp only [fill, Act.put, List.append_eq, List.cons_append, List.nil_append, List.take_succ_cons, List.take_zero, List.setIfInBounds_toArray, List.set_cons_succ, List.set_cons_zero, Nat.reduceAdd, Nat.zero_add, q0, q1, q2] at hb
  subst hb
  simp only [List.append_eq, List.cons_append, List.nil_append, List.drop_succ_cons, List.drop_zero]
  clear q0 q1 q2
  obtain ⟨gp, hv, A, hgp⟩ := q3
  rw [hv]
  clear hv
  have z0 : _ = some (Value.int .i64 0) := (blk_cell A 0).trans rfl
  have y'0 := blk_frozen A 0
  have z1 : _ = some (Value.int .i64 0) := (blk_cell A 1).trans rfl
  have y'1 := blk_frozen A 1
  have hJ := Lib.hid hG
  clear hG
  have hW0 := Lib.hid hW0
  have hlt := Lib.hid hlt
  have hjlt := Lib.hid hjlt
  have hik := Lib.hid hik
  have hjk := Lib.hid hjk
  go_wp2
  replace hJ := hJ.out
  replace hW0 := hW0.out
  replace hlt := hlt.out
  replace hjlt := hjlt.out
  replace hik := hik.out
  replace hjk := hjk.out
  have hBB : Below W0.heap.size W0 ((W.setCell ⟨gp, 0, none⟩ (.int .i64 (i : Int))).setCell ⟨gp, 1, none⟩ (.int .i64 (j : Int))) := below_set (below_set hJ hgp) hgp
  have hG : (O4 n0 n1 k0 k1 s0 s1 p0 p1 p2 p3 w ((W.setCell ⟨gp, 0, none⟩ (.int .i64 (i : Int))).setCell ⟨gp, 1, none⟩ (.int .i64 (j : Int))) ∧ ((W.setCell ⟨gp, 0, none⟩ (.int .i64 (i : Int))).setCell ⟨gp, 1, none⟩ (.int .i64 (j : Int))).heap[g]? = some (.cells #[pl n0 n1, pl k0 k1, pl s0 s1, pl p0 p1, pl (n0 + p0 + p2) (n1 + p1 + p3)] 53 (0, 0)) ∧ ((W.setCell ⟨gp, 0, none⟩ (.int .i64 (i : Int))).setCell ⟨gp, 1, none⟩ (.int .i64 (j : Int))).ownsRow (g + 1) 34 2 v17 (tapsL n0 n1 k1 s0 s1 p0 p1 y x ((i : Int) * k1 + (j : Int)).toNat).length (flat (tapsL n0 n1 k1 s0 s1 p0 p1 y x ((i : Int) * k1 + (j : Int)).toNat))) ∧ ((W.setCell ⟨gp, 0, none⟩ (.int .i64 (i : Int))).setCell ⟨gp, 1, none⟩ (.int .i64 (j : Int))).heap[gp]? = some (box2 (i : Int) (j : Int)) := ⟨⟨hW0.1.step hBB, blk_below hW0.2.1 hBB, ownsRow_below hW0.2.2 hBB⟩, blk_put (blk_put A 0 _ rfl) 1 _ rfl⟩
  generalize (W.setCell ⟨gp, 0, none⟩ (.int .i64 (i : Int))).setCell ⟨gp, 1, none⟩ (.int .i64 (j : Int)) = V at *
  clear hBB hJ hW0 A z0 z1 y'0 y'1 hgp
  refine HK18.out _ _ ?_
  clear HK18
  apply wp_seq_k
  intro K19 hK19
  have HK19 := Lib.hid hK19
  clear hK19
  have C3 := cadd (y * s0 - p0) (x * s1 - p1) (i : Int) (j : Int) (by have := HB.out; exact ⟨by omega, by omega⟩) (by have := HB.out; exact ⟨by omega, by omega⟩) (by have := HB.out; exact ⟨by omega, by omega⟩) (by have := HB.out; exact ⟨by omega, by omega⟩) (by have := HB.out; exact ⟨by omega, by omega⟩) (by have := HB.out; exact ⟨by omega, by omega⟩)
  have C3 := Lib.hid C3
  refine wp_drawn (R := fun W W' => Below W.heap.size W W') 7 [.val (pl (y * s0 - p0) (x * s1 - p1)), .val (.agg #[.int .i64 (i : Int), .int .i64 (j : Int)]), .val (pl (i : Int) (j : Int)), .val (pl (y * s0 - p0 + (i : Int)) (x * s1 - p1 + (j : Int))), .val (.pointer (some ⟨g, 0, none⟩)), .val (pl n0 n1), .val (.bool (inB n0 n1 s0 s1 p0 p1 y x (i : Int) (j : Int)))] (fun W => (O4 n0 n1 k0 k1 s0 s1 p0 p1 p2 p3 w W ∧ W.heap[g]? = some (.cells #[pl n0 n1, pl k0 k1, pl s0 s1, pl p0 p1, pl (n0 + p0 + p2) (n1 + p1 + p3)] 53 (0, 0)) ∧ W.ownsRow (g + 1) 34 2 v17 (tapsL n0 n1 k1 s0 s1 p0 p1 y x ((i : Int) * k1 + (j : Int)).toNat).length (flat (tapsL n0 n1 k1 s0 s1 p0 p1 y x ((i : Int) * k1 + (j : Int)).toNat))) ∧ W.heap[gp]? = some (box2 (i : Int) (j : Int))) rfl (by kernel_rfl) ⟨⟨hG.1.1.drew, hG.1.2⟩, hG.2⟩ ?_ ?_
  · intro vs W hG b hb
    have e14 : b.eval (.tmp 14) = .pointer (some ⟨g, 0, none⟩) := (congrArg (fun x => Act.eval x (.tmp 14)) hb).trans ((fill_out _ 0 _ (by kernel_rfl)).trans rfl)
    have e17 : b.eval (.tmp 17) = pl (y * s0 - p0) (x * s1 - p1) := (congrArg (fun x => Act.eval x (.tmp 17)) hb).trans ((fill_out _ 0 _ (by kernel_rfl)).trans rfl)
    have e20 : b.eval (.tmp 20) = .pointer (some ⟨gp, 0, none⟩) := (congrArg (fun x => Act.eval x (.tmp 20)) hb).trans ((fill_out _ 0 _ (by kernel_rfl)).trans rfl)
    have i59 : b.eval (.tmp 59) = vs 0 := (congrArg (fun x => Act.eval x (.tmp 59)) hb).trans ((fill_in _ 0 0 _ _ 59 (by kernel_rfl) rfl rfl (by simp)).trans (congrArg vs (Nat.zero_add _)))
    have i60 : b.eval (.tmp 60) = vs 1 := (congrArg (fun x => Act.eval x (.tmp 60)) hb).trans ((fill_in _ 0 1 _ _ 60 (by kernel_rfl) rfl rfl (by simp)).trans (congrArg vs (Nat.zero_add _)))
    have i61 : b.eval (.tmp 61) = vs 2 := (congrArg (fun x => Act.eval x (.tmp 61)) hb).trans ((fill_in _ 0 2 _ _ 61 (by kernel_rfl) rfl rfl (by simp)).trans (congrArg vs (Nat.zero_add _)))
    have i62 : b.eval (.tmp 62) = vs 3 := (congrArg (fun x => Act.eval x (.tmp 62)) hb).trans ((fill_in _ 0 3 _ _ 62 (by kernel_rfl) rfl rfl (by simp)).trans (congrArg vs (Nat.zero_add _)))
    have i63 : b.eval (.tmp 63) = vs 4 := (congrArg (fun x => Act.eval x (.tmp 63)) hb).trans ((fill_in _ 0 4 _ _ 63 (by kernel_rfl) rfl rfl (by simp)).trans (congrArg vs (Nat.zero_add _)))
    have i64 : b.eval (.tmp 64) = vs 5 := (congrArg (fun x => Act.eval x (.tmp 64)) hb).trans ((fill_in _ 0 5 _ _ 64 (by kernel_rfl) rfl rfl (by simp)).trans (congrArg vs (Nat.zero_add _)))
    clear hb
    refine And.intro ?_ (And.intro ?_ (And.intro ?_ (And.intro ?_ (And.intro ?_ (And.intro ?_ (And.intro ?_ (trivial)))))))
    · intro hp K hK
      refine g_no rfl ?_
      exact st_move (.inl rfl) (e17) (hK _ _ rfl hG (Below.refl _ _))
    · intro hp K hK
      refine g_no rfl ?_
      exact st_load rfl (e20) (ld2 hG.2) (hK _ _ rfl hG (Below.refl _ _))
    · intro hp K hK
      refine g_no rfl ?_
      have e60 : b.eval (.tmp 60) = .agg #[.int .i64 (i : Int), .int .i64 (j : Int)] := i60.trans (hp 1 (by kernel_rfl))
      refine st_call rfl (by first | (simp only [List.map_toArray, List.map_cons, List.map_nil, eval_const, e60]; done) | (simp only [List.map_toArray, List.map_cons, List.map_nil, eval_const, e60]; rfl)) (by kernel_rfl) ?_
      refine (plane_is (i : Int) (j : Int) _).mono ?_
      rintro e w' ⟨rfl, hb'⟩
      exact ⟨_, rfl, hK _ _ rfl ⟨⟨hG.1.1.step hb', blk_below hG.1.2.1 hb', ownsRow_below hG.1.2.2 hb'⟩, blk_below hG.2 hb'⟩ hb'⟩
    · intro hp K hK
      refine g_no rfl ?_
      have e59 : b.eval (.tmp 59) = pl (y * s0 - p0) (x * s1 - p1) := i59.trans (hp 0 (by kernel_rfl))
      have e61 : b.eval (.tmp 61) = pl (i : Int) (j : Int) := i61.trans (hp 2 (by kernel_rfl))
      exact st_bin rfl (e59) (e61) (bin_st rfl C3.out) (hK _ _ rfl hG (Below.refl _ _))
    · intro hp K hK
      refine g_no rfl ?_
      exact st_field rfl (e14) (by kernel_rfl) (hK _ _ rfl hG (Below.refl _ _))
    · intro hp K hK
      refine g_no rfl ?_
      have e63 : b.eval (.tmp 63) = .pointer (some ⟨g, 0, none⟩) := i63.trans (hp 4 (by kernel_rfl))
      exact st_load rfl (e63) (ldp ((blk_cell hG.1.2.1 0).trans rfl)) (hK _ _ rfl hG (Below.refl _ _))
    · intro hp K hK
      refine g_no rfl ?_
      have e62 : b.eval (.tmp 62) = pl (y * s0 - p0 + (i : Int)) (x * s1 - p1 + (j : Int)) := i62.trans (hp 3 (by kernel_rfl))
      have e64 : b.eval (.tmp 64) = pl n0 n1 := i64.trans (hp 5 (by kernel_rfl))
      have B_ := HB.out
      refine st_call rfl (by first | (simp only [List.map_toArray, List.map_cons, List.map_nil, eval_const, e62, e64]; done) | (simp only [List.map_toArray, List.map_cons, List.map_nil, eval_const, e62, e64]; rfl)) (by kernel_rfl) ?_
      refine ((within_is (y * s0 - p0 + (i : Int)) (x * s1 - p1 + (j : Int)) n0 n1 _ (Sm.wd ⟨by omega, by omega⟩) (Sm.wd ⟨by omega, by omega⟩) ⟨by omega, by omega⟩ ⟨by omega, by omega⟩).mono (fun e w' h => ⟨h.1.trans (by rw [wi_in]), h.2⟩ : ∀ e w', _ → (e = .returned (.bool (inB n0 n1 s0 s1 p0 p1 y x (i : Int) (j : Int))) ∧ w' = _))).mono ?_
      rintro e w' ⟨rfl, rfl⟩
      exact ⟨_, rfl, hK _ _ rfl hG (Below.refl _ _)⟩
  intro vs W hG hp b hb
  have q6 : vs 6 = .bool (inB n0 n1 s0 s1 p0 p1 y x (i : Int) (j : Int)) := hp 6 (by decide)
  clear hp
  simp only [fill, Act.put, List.append_eq, List.cons_append, List.nil_append, List.take_succ_cons, List.take_zero, List.setIfInBounds_toArray, List.set_cons_succ, List.set_cons_zero, Nat.reduceAdd, Nat.zero_add, q6] at hb
  subst hb
  refine wpList_nil ?_
  clear q6
  refine HK19.out _ _ ?_
  clear HK19
  obtain ⟨hp1, hp2, hp3⟩ := at_place (i := i) (j := j) (k1 := k1) (by have := HB.out; omega) hjlt
  have hp1 := Lib.hid hp1
  have hp2 := Lib.hid hp2
  have hp3 := Lib.hid hp3
  refine wp_cond_split rfl (fun hin => ?_) (fun hin => ?_)
  rotate_left
  · have hJ := Lib.hid hG
    clear hG
    apply wp_skip
    simp only [Exit.inBlock, Exit.then]
    refine HK16.out _ _ ?_
    clear HK16
    have hl : IntKind.i64.wrap ((j : Int) + 1) = (j : Int) + 1 := IntWalk.i64_in _ (by have := HB.out; omega)
    have hlt := Lib.hid hlt
    have hjlt := Lib.hid hjlt
    have hik := Lib.hid hik
    have hjk := Lib.hid hjk
    have hin := Lib.hid hin
    go_wp2
    refine ⟨loop_frame (by kernel_rfl), ⟨j + 1, by show Value.int .i64 _ = _; simp, by have := hjlt.out; omega, hJ.out.1.1, hJ.out.1.2.1, by rw [← hp3.out, tapsL_no (by rw [hp1.out, hp2.out]; exact hin.out)]; exact hJ.out.1.2.2⟩, ?_⟩
    exact Msr.lt hjlt.out
  refine wp_listed (R := fun W W' => Below W.heap.size W W') 3 [.val (v17), .val (.agg #[.int .i64 (i : Int), .int .i64 (j : Int)]), ⟨fun v W => ∃ gg, v = .slice (some ⟨gg, 0, none⟩) 1 1 ∧ W.heap[gg]? = some (.cells #[.int .i64 (i : Int), .int .i64 (j : Int)] 34 (0, 0)), fun _ _ _ ⟨gg, h1, h2⟩ hb => ⟨gg, h1, blk_below h2 hb⟩⟩] (fun W => (O4 n0 n1 k0 k1 s0 s1 p0 p1 p2 p3 w W ∧ W.heap[g]? = some (.cells #[pl n0 n1, pl k0 k1, pl s0 s1, pl p0 p1, pl (n0 + p0 + p2) (n1 + p1 + p3)] 53 (0, 0)) ∧ W.ownsRow (g + 1) 34 2 v17 (tapsL n0 n1 k1 s0 s1 p0 p1 y x ((i : Int) * k1 + (j : Int)).toNat).length (flat (tapsL n0 n1 k1 s0 s1 p0 p1 y x ((i : Int) * k1 + (j : Int)).toNat))) ∧ W.heap[gp]? = some (box2 (i : Int) (j : Int))) (by kernel_rfl) hG ?_ ?_
  · intro vs W hG b hb
    have e16 : b.eval (.tmp 16) = v17 := (congrArg (fun x => Act.eval x (.tmp 16)) hb).trans ((fill_out _ 0 _ (by kernel_rfl)).trans rfl)
    have e20 : b.eval (.tmp 20) = .pointer (some ⟨gp, 0, none⟩) := (congrArg (fun x => Act.eval x (.tmp 20)) hb).trans ((fill_out _ 0 _ (by kernel_rfl)).trans rfl)
    have i67 : b.eval (.tmp 67) = vs 1 := (congrArg (fun x => Act.eval x (.tmp 67)) hb).trans ((fill_in _ 0 1 _ _ 67 (by kernel_rfl) rfl rfl (by simp)).trans (congrArg vs (Nat.zero_add _)))
    clear hb
    refine And.intro ?_ (And.intro ?_ (And.intro ?_ (trivial)))
    · intro hp K hK
      refine g_no rfl ?_
      exact st_move (.inl rfl) (e16) (hK _ _ rfl hG (Below.refl _ _))
    · intro hp K hK
      refine g_no rfl ?_
      exact st_load rfl (e20) (ld2 hG.2) (hK _ _ rfl hG (Below.refl _ _))
    · intro hp K hK
      refine g_no rfl ?_
      have e67 : b.eval (.tmp 67) = .agg #[.int .i64 (i : Int), .int .i64 (j : Int)] := i67.trans (hp 1 (by kernel_rfl))
      exact st_buildSlice rfl (by first | (simp only [List.map_toArray, List.map_cons, List.map_nil, eval_const, e67]; done) | (simp only [List.map_toArray, List.map_cons, List.map_nil, eval_const, e67]; rfl)) (bs1 _ _ _) (hK _ _ ⟨_, rfl, blk_new _ _⟩ ⟨⟨hG.1.1.alloc _, blk_alloc hG.1.2.1 _, ownsRow_below hG.1.2.2 ((Below.refl _ _).alloc (Nat.le_refl _) _)⟩, blk_alloc hG.2 _⟩ ((Below.refl _ _).alloc (Nat.le_refl _) _))
  intro vs W hG hp b hb
  have q0 : vs 0 = v17 := hp 0 (by decide)
  have q1 : vs 1 = .agg #[.int .i64 (i : Int), .int .i64 (j : Int)] := hp 1 (by decide)
  have q2 : ∃ gg, (vs 2) = .slice (some ⟨gg, 0, none⟩) 1 1 ∧ W.heap[gg]? = some (.cells #[.int .i64 (i : Int), .int .i64 (j : Int)] 34 (0, 0)) := hp 2 (by decide)
  clear hp
  simp only [fill, Act.put, List.append_eq, List.cons_append, List.nil_append, List.take_succ_cons, List.take_zero, List.setIfInBounds_toArray, List.set_cons_succ, List.set_cons_zero, Nat.reduceAdd, Nat.zero_add, q0, q1] at hb
  subst hb
  simp only [List.append_eq, List.cons_append, List.nil_append, List.drop_succ_cons, List.drop_zero]
  clear q0 q1
  obtain ⟨gg, hv4, A⟩ := q2
  rw [hv4]
  clear hv4
  obtain ⟨⟨hG, hF, hown⟩, -⟩ := hG
  have hc := (Array.getElem?_eq_some_iff.1 hF).1
  have hlen : (tapsL n0 n1 k1 s0 s1 p0 p1 y x ((i : Int) * k1 + (j : Int)).toNat).length ≤ ((i : Int) * k1 + (j : Int)).toNat := tapsL_le
  have hm64 : ((i : Int) * k1 + (j : Int)).toNat < 64 := by
    have := HB.out
    have h1 : (i : Int) * k1 + k1 ≤ k0 * k1 := by
      have := Int.mul_le_mul_of_nonneg_right (show (i : Int) + 1 ≤ k0 by omega) (show 0 ≤ k1 by omega)
      rwa [Int.add_mul, Int.one_mul] at this
    omega
  refine wpList_append_own W rfl (.tmp 66) (.tmp 68) 45 rfl (g + 1) 34 i0 _ 2 16 Try.underlying45 II.out IZ.out.1 IZ.out.2.1 IZ.out.2.2 rfl (by decide) v17 _ _ rfl hown ⟨gg, 0, none⟩ 1 1 [.int .i64 (i : Int), .int .i64 (j : Int)] rfl rfl (news2 A) (fun u hu => by simp at hu; rcases hu with rfl | rfl <;> rfl) (by unfold maxLen; omega) (by omega) (by omega) ?_
  intro v' w' hown' hgrow _
  have hr := ownsRow_base hown
  have hG2 := hG.grown hgrow (fun k hk => by have := hr k hk; omega)
  have hF2 : w'.heap[g]? = some (.cells #[pl n0 n1, pl k0 k1, pl s0 s1, pl p0 p1, pl (n0 + p0 + p2) (n1 + p1 + p3)] 53 (0, 0)) := (hgrow.block g hc (fun e => by have := hr g e.symm; omega)).trans hF
  have hown2 : w'.ownsRow (g + 1) 34 2 v' (tapsL n0 n1 k1 s0 s1 p0 p1 y x ((i : Int) * k1 + ((j + 1 : Nat) : Int)).toNat).length (flat (tapsL n0 n1 k1 s0 s1 p0 p1 y x ((i : Int) * k1 + ((j + 1 : Nat) : Int)).toNat)) := by
    rw [← hp3.out, tapsL_yes (by rw [hp1.out, hp2.out]; exact hin), hp1.out, hp2.out, flat_snoc, List.length_append]
    exact hown'
  clear hown' hG hown A hgrow hlen hm64 hc hr hF
  have hJ := Lib.hid (And.intro hG2 (And.intro hF2 hown2))
  clear hG2 hF2 hown2
  have hl : IntKind.i64.wrap ((j : Int) + 1) = (j : Int) + 1 := IntWalk.i64_in _ (by have := HB.out; omega)
  have hlt := Lib.hid hlt
  have hjlt := Lib.hid hjlt
  have hik := Lib.hid hik
  have hjk := Lib.hid hjk
  have hin := Lib.hid hin
  go_wp2
  refine HK16.out _ _ ?_
  clear HK16
  go_wp2
  refine ⟨loop_frame (by kernel_rfl), ⟨j + 1, by show Value.int .i64 _ = _; simp, by have := hjlt.out; omega, hJ.out.1, hJ.out.2.1, hJ.out.2.2⟩, ?_⟩
  exact Msr.lt hjlt.out
end Go.Proofs.Ytfcimgdogkpbcaa.W
