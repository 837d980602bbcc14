/- Window: == of arrays; lives. -/
import Derived.Test.YtfcimgdogkpbcaaW9
import Derived.ChangeKeysEq
namespace Go.Proofs.Ytfcimgdogkpbcaa.W
open Go.RowKit T1 F Dr
set_option linter.unusedVariables false
set_option linter.unusedSimpArgs false
set_option maxRecDepth 100000

theorem info3' : ∃ i, Try.prog.info? 3 = some i := by
  have h : (Try.prog.info? 3).isSome = true := by kernel_rfl
  exact Option.isSome_iff_exists.mp h
theorem cells3' : Try.prog.cellsOf 3 = 1 := by kernel_rfl
theorem part3' (xs : Array Value) (i : Nat) (k : Int) (w : World) (h : xs[i]? = some (.int .i64 k)) : (part 3 xs i).run Try.prog w = .ok (.int .i64 k) w := by
  unfold part
  simp [h, go_sem]
theorem eq2 (a0 a1 b0 b1 : Int) (w : World) : (Op.equalIn 10000 34 (.agg #[.int .i64 a0, .int .i64 a1]) (.agg #[.int .i64 b0, .int .i64 b1])).run Try.prog w = .ok ((a0 == b0) && (a1 == b1)) w := by
  obtain ⟨i, hi⟩ := info3'
  rw [show 10000 = 9998 + 1 + 1 from rfl, run_equalIn_array w (9998 + 1) _ _ Try.underlying34 hi, cells3']
  simp only [Op.eqItems, List.range, List.range.loop]
  have A0 := part3' #[Value.int IntKind.i64 a0, Value.int IntKind.i64 a1] (0 * 1) a0 w rfl
  have B0 := part3' #[Value.int IntKind.i64 b0, Value.int IntKind.i64 b1] (0 * 1) b0 w rfl
  have A1 := part3' #[Value.int IntKind.i64 a0, Value.int IntKind.i64 a1] (1 * 1) a1 w rfl
  have B1 := part3' #[Value.int IntKind.i64 b0, Value.int IntKind.i64 b1] (1 * 1) b1 w rfl
  have E := fun (a b : Int) => run_equalIn_int (P := Try.prog) w 9998 3 .i64 .i64 a b Try.underlying3
  cases h0 : (a0 == b0) <;> cases h1 : (a1 == b1) <;>
    simp only [Sem.run_bind, A0, B0, h0, A1, B1, h1, E, Result.andThen_ok, Bool.not_false, Bool.not_true, Bool.and_true, Bool.and_false, Bool.true_and, Bool.false_and, ↓reduceIte, Bool.false_eq_true] <;> rfl
theorem beq2 {x y : Operand} (a0 a1 b0 b1 : Int) (W : World) : (do eqGuard .eql 34 x y (.agg #[.int .i64 a0, .int .i64 a1]) (.agg #[.int .i64 b0, .int .i64 b1]); binOp .eql 34 (.agg #[.int .i64 a0, .int .i64 a1]) (.agg #[.int .i64 b0, .int .i64 b1]) : Sem Value).run Try.prog W = .ok (.bool ((a0 == b0) && (a1 == b1))) W := by
  have g : (eqGuard .eql 34 x y (.agg #[.int .i64 a0, .int .i64 a1]) (.agg #[.int .i64 b0, .int .i64 b1])).run Try.prog W = .ok () W := by kernel_rfl
  have e := eq2 a0 a1 b0 b1 W
  rw [Sem.run_bind, g]
  simp only [Result.andThen_ok]
  have e' : (Op.equal 34 (.agg #[.int .i64 a0, .int .i64 a1]) (.agg #[.int .i64 b0, .int .i64 b1])).run Try.prog W = .ok ((a0 == b0) && (a1 == b1)) W := e
  unfold binOp
  simp [e']
theorem eq4 (a0 a1 a2 a3 b0 b1 b2 b3 : Int) (w : World) : (Op.equalIn 10000 35 (.agg #[.int .i64 a0, .int .i64 a1, .int .i64 a2, .int .i64 a3]) (.agg #[.int .i64 b0, .int .i64 b1, .int .i64 b2, .int .i64 b3])).run Try.prog w = .ok ((a0 == b0) && ((a1 == b1) && ((a2 == b2) && (a3 == b3)))) w := by
  obtain ⟨i, hi⟩ := info3'
  rw [show 10000 = 9998 + 1 + 1 from rfl, run_equalIn_array w (9998 + 1) _ _ Try.underlying35 hi, cells3']
  simp only [Op.eqItems, List.range, List.range.loop]
  have A0 := part3' #[Value.int IntKind.i64 a0, Value.int IntKind.i64 a1, Value.int IntKind.i64 a2, Value.int IntKind.i64 a3] (0 * 1) a0 w rfl
  have B0 := part3' #[Value.int IntKind.i64 b0, Value.int IntKind.i64 b1, Value.int IntKind.i64 b2, Value.int IntKind.i64 b3] (0 * 1) b0 w rfl
  have A1 := part3' #[Value.int IntKind.i64 a0, Value.int IntKind.i64 a1, Value.int IntKind.i64 a2, Value.int IntKind.i64 a3] (1 * 1) a1 w rfl
  have B1 := part3' #[Value.int IntKind.i64 b0, Value.int IntKind.i64 b1, Value.int IntKind.i64 b2, Value.int IntKind.i64 b3] (1 * 1) b1 w rfl
  have A2 := part3' #[Value.int IntKind.i64 a0, Value.int IntKind.i64 a1, Value.int IntKind.i64 a2, Value.int IntKind.i64 a3] (2 * 1) a2 w rfl
  have B2 := part3' #[Value.int IntKind.i64 b0, Value.int IntKind.i64 b1, Value.int IntKind.i64 b2, Value.int IntKind.i64 b3] (2 * 1) b2 w rfl
  have A3 := part3' #[Value.int IntKind.i64 a0, Value.int IntKind.i64 a1, Value.int IntKind.i64 a2, Value.int IntKind.i64 a3] (3 * 1) a3 w rfl
  have B3 := part3' #[Value.int IntKind.i64 b0, Value.int IntKind.i64 b1, Value.int IntKind.i64 b2, Value.int IntKind.i64 b3] (3 * 1) b3 w rfl
  have E := fun (a b : Int) => run_equalIn_int (P := Try.prog) w 9998 3 .i64 .i64 a b Try.underlying3
  cases h0 : (a0 == b0) <;> cases h1 : (a1 == b1) <;> cases h2 : (a2 == b2) <;> cases h3 : (a3 == b3) <;>
    simp only [Sem.run_bind, A0, B0, h0, A1, B1, h1, A2, B2, h2, A3, B3, h3, E, Result.andThen_ok, Bool.not_false, Bool.not_true, Bool.and_true, Bool.and_false, Bool.true_and, Bool.false_and, ↓reduceIte, Bool.false_eq_true] <;> rfl
theorem beq4 {x y : Operand} (a0 a1 a2 a3 b0 b1 b2 b3 : Int) (W : World) : (do eqGuard .eql 35 x y (.agg #[.int .i64 a0, .int .i64 a1, .int .i64 a2, .int .i64 a3]) (.agg #[.int .i64 b0, .int .i64 b1, .int .i64 b2, .int .i64 b3]); binOp .eql 35 (.agg #[.int .i64 a0, .int .i64 a1, .int .i64 a2, .int .i64 a3]) (.agg #[.int .i64 b0, .int .i64 b1, .int .i64 b2, .int .i64 b3]) : Sem Value).run Try.prog W = .ok (.bool ((a0 == b0) && ((a1 == b1) && ((a2 == b2) && (a3 == b3))))) W := by
  have g : (eqGuard .eql 35 x y (.agg #[.int .i64 a0, .int .i64 a1, .int .i64 a2, .int .i64 a3]) (.agg #[.int .i64 b0, .int .i64 b1, .int .i64 b2, .int .i64 b3])).run Try.prog W = .ok () W := by kernel_rfl
  have e := eq4 a0 a1 a2 a3 b0 b1 b2 b3 W
  rw [Sem.run_bind, g]
  simp only [Result.andThen_ok]
  have e' : (Op.equal 35 (.agg #[.int .i64 a0, .int .i64 a1, .int .i64 a2, .int .i64 a3]) (.agg #[.int .i64 b0, .int .i64 b1, .int .i64 b2, .int .i64 b3])).run Try.prog W = .ok ((a0 == b0) && ((a1 == b1) && ((a2 == b2) && (a3 == b3)))) W := e
  unfold binOp
  simp [e']
theorem new4 (W : World) : (Instr.alloc 35 true (.tuple #[])).run Try.prog W = .ok (.pointer (some ⟨W.heap.size, 0, none⟩)) (W.alloc (box4 0 0 0 0)) := by simp [go_sem]
set_option maxHeartbeats 4000000 in
theorem lives_is (w : World) : Calls Try.prog 22 #[] w (fun e w' => e = .returned (.bool true) ∧ Below w.heap.size w w') := by
  go_enter Try.func22, Try.ntmps22
  apply wp_seq_k
  intro K1 hK1
  have HK1 := Lib.hid hK1
  clear hK1
  go_wp2
  refine HK1.out _ _ ?_
  clear HK1
  apply wp_seq_k
  intro K2 hK2
  have HK2 := Lib.hid hK2
  clear hK2
  refine wp_listed (R := fun W W' => Below W.heap.size W W') 9 [.val (.agg #[.int .i64 5, .int .i64 5]), .val (.agg #[.int .i64 3, .int .i64 3]), .val (.agg #[.int .i64 1, .int .i64 1]), .val (.agg #[.int .i64 1, .int .i64 1, .int .i64 1, .int .i64 1]), .val (.tuple #[.agg #[.int .i64 5, .int .i64 5], .bool true]), .val (.tuple #[.agg #[.int .i64 5, .int .i64 5], .bool true]), .val (.agg #[.int .i64 5, .int .i64 5]), .val (.bool true), newSpec (box2 0 0) (w.heap.size)] (fun W => Below w.heap.size w W) (by kernel_rfl) (Below.refl _ _) ?_ ?_
  · intro vs W hG b hb
    have i5 : b.eval (.tmp 5) = vs 5 := (congrArg (fun x => Act.eval x (.tmp 5)) hb).trans ((fill_in _ 0 5 _ _ 5 (by kernel_rfl) rfl rfl (by simp)).trans (congrArg vs (Nat.zero_add _)))
    have i6 : b.eval (.tmp 6) = vs 0 := (congrArg (fun x => Act.eval x (.tmp 6)) hb).trans ((fill_in _ 0 0 _ _ 6 (by kernel_rfl) rfl rfl (by simp)).trans (congrArg vs (Nat.zero_add _)))
    have i7 : b.eval (.tmp 7) = vs 1 := (congrArg (fun x => Act.eval x (.tmp 7)) hb).trans ((fill_in _ 0 1 _ _ 7 (by kernel_rfl) rfl rfl (by simp)).trans (congrArg vs (Nat.zero_add _)))
    have i8 : b.eval (.tmp 8) = vs 2 := (congrArg (fun x => Act.eval x (.tmp 8)) hb).trans ((fill_in _ 0 2 _ _ 8 (by kernel_rfl) rfl rfl (by simp)).trans (congrArg vs (Nat.zero_add _)))
    have i9 : b.eval (.tmp 9) = vs 3 := (congrArg (fun x => Act.eval x (.tmp 9)) hb).trans ((fill_in _ 0 3 _ _ 9 (by kernel_rfl) rfl rfl (by simp)).trans (congrArg vs (Nat.zero_add _)))
    have i10 : b.eval (.tmp 10) = vs 4 := (congrArg (fun x => Act.eval x (.tmp 10)) hb).trans ((fill_in _ 0 4 _ _ 10 (by kernel_rfl) rfl rfl (by simp)).trans (congrArg vs (Nat.zero_add _)))
    clear hb
    refine And.intro ?_ (And.intro ?_ (And.intro ?_ (And.intro ?_ (And.intro ?_ (And.intro ?_ (And.intro ?_ (And.intro ?_ (And.intro ?_ (trivial)))))))))
    · intro hp K hK
      refine g_no rfl ?_
      exact st_build rfl (by first | (simp only [List.map_toArray, List.map_cons, List.map_nil, eval_const]; done) | (simp only [List.map_toArray, List.map_cons, List.map_nil, eval_const]; rfl)) (by kernel_rfl) (hK _ _ rfl hG (Below.refl _ _))
    · intro hp K hK
      refine g_no rfl ?_
      exact st_build rfl (by first | (simp only [List.map_toArray, List.map_cons, List.map_nil, eval_const]; done) | (simp only [List.map_toArray, List.map_cons, List.map_nil, eval_const]; rfl)) (by kernel_rfl) (hK _ _ rfl hG (Below.refl _ _))
    · intro hp K hK
      refine g_no rfl ?_
      exact st_build rfl (by first | (simp only [List.map_toArray, List.map_cons, List.map_nil, eval_const]; done) | (simp only [List.map_toArray, List.map_cons, List.map_nil, eval_const]; rfl)) (by kernel_rfl) (hK _ _ rfl hG (Below.refl _ _))
    · intro hp K hK
      refine g_no rfl ?_
      exact st_build rfl (by first | (simp only [List.map_toArray, List.map_cons, List.map_nil, eval_const]; done) | (simp only [List.map_toArray, List.map_cons, List.map_nil, eval_const]; rfl)) (by kernel_rfl) (hK _ _ rfl hG (Below.refl _ _))
    · intro hp K hK
      refine g_no rfl ?_
      have e6 : b.eval (.tmp 6) = .agg #[.int .i64 5, .int .i64 5] := i6.trans (hp 0 (by kernel_rfl))
      have e7 : b.eval (.tmp 7) = .agg #[.int .i64 3, .int .i64 3] := i7.trans (hp 1 (by kernel_rfl))
      have e8 : b.eval (.tmp 8) = .agg #[.int .i64 1, .int .i64 1] := i8.trans (hp 2 (by kernel_rfl))
      have e9 : b.eval (.tmp 9) = .agg #[.int .i64 1, .int .i64 1, .int .i64 1, .int .i64 1] := i9.trans (hp 3 (by kernel_rfl))
      refine st_call rfl (by first | (simp only [List.map_toArray, List.map_cons, List.map_nil, eval_const, e6, e7, e8, e9]; done) | (simp only [List.map_toArray, List.map_cons, List.map_nil, eval_const, e6, e7, e8, e9]; rfl)) (by kernel_rfl) ?_
      refine (Out_good 5 5 3 3 1 1 1 1 1 1 _ (by decide)).mono ?_
      rintro e w' ⟨rfl, hb'⟩
      exact ⟨_, rfl, hK _ _ rfl (hG.trans (hb'.mono hG.size)) hb'⟩
    · intro hp K hK
      refine g_no rfl ?_
      have e10 : b.eval (.tmp 10) = .tuple #[.agg #[.int .i64 5, .int .i64 5], .bool true] := i10.trans (hp 4 (by kernel_rfl))
      exact st_move (.inl rfl) (e10) (hK _ _ rfl hG (Below.refl _ _))
    · intro hp K hK
      refine g_no rfl ?_
      have e5 : b.eval (.tmp 5) = .tuple #[.agg #[.int .i64 5, .int .i64 5], .bool true] := i5.trans (hp 5 (by kernel_rfl))
      exact st_extract rfl (e5) (by kernel_rfl) (hK _ _ rfl hG (Below.refl _ _))
    · intro hp K hK
      refine g_no rfl ?_
      have e5 : b.eval (.tmp 5) = .tuple #[.agg #[.int .i64 5, .int .i64 5], .bool true] := i5.trans (hp 5 (by kernel_rfl))
      exact st_extract rfl (e5) (by kernel_rfl) (hK _ _ rfl hG (Below.refl _ _))
    · intro hp K hK
      refine g_no rfl ?_
      exact st_alloc rfl (new2 _) (hK _ _ ⟨_, rfl, blk_new _ _, hG.size⟩ (hG.alloc hG.size _) ((Below.refl _ _).alloc (Nat.le_refl _) _))
  intro vs W hG hp b hb
  have q0 : vs 0 = .agg #[.int .i64 5, .int .i64 5] := hp 0 (by decide)
  have q1 : vs 1 = .agg #[.int .i64 3, .int .i64 3] := hp 1 (by decide)
  have q2 : vs 2 = .agg #[.int .i64 1, .int .i64 1] := hp 2 (by decide)
  have q3 : vs 3 = .agg #[.int .i64 1, .int .i64 1, .int .i64 1, .int .i64 1] := hp 3 (by decide)
  have q4 : vs 4 = .tuple #[.agg #[.int .i64 5, .int .i64 5], .bool true] := hp 4 (by decide)
  have q5 : vs 5 = .tuple #[.agg #[.int .i64 5, .int .i64 5], .bool true] := hp 5 (by decide)
  have q6 : vs 6 = .agg #[.int .i64 5, .int .i64 5] := hp 6 (by decide)
  have q7 : vs 7 = .bool true := hp 7 (by decide)
  have q8 : ∃ gg, (vs 8) = .pointer (some ⟨gg, 0, none⟩) ∧ W.heap[gg]? = some (box2 0 0) ∧ w.heap.size ≤ gg := hp 8 (by decide)
  clear hp
  simp only [fill, Act.put, List.append_eq, List.cons_append, List.nil_append, List.take_succ_cons, List.take_zero, List.setIfInBounds_toArray, List.set_cons_succ, List.set_cons_zero, Nat.reduceAdd, Nat.zero_add, q0, q1, q2, q3, q4, q5, q6, q7] at hb
  subst hb
  simp only [List.append_eq, List.cons_append, List.nil_append, List.drop_succ_cons, List.drop_zero]
  clear q0 q1 q2 q3 q4 q5 q6 q7
  obtain ⟨g, hv, A, hg⟩ := q8
  rw [hv]
  clear hv
  have z0 : _ = some (Value.int .i64 0) := (blk_cell A 0).trans rfl
  have y0 := blk_frozen A 0
  have z1 : _ = some (Value.int .i64 0) := (blk_cell A 1).trans rfl
  have y1 := blk_frozen A 1
  have hJ := Lib.hid hG
  clear hG
  go_wp2
  replace hJ := hJ.out
  have hG : Below w.heap.size w ((W.setCell ⟨g, 0, none⟩ (.int .i64 5)).setCell ⟨g, 1, none⟩ (.int .i64 5)) := below_set (below_set hJ hg) hg
  have hA : ((W.setCell ⟨g, 0, none⟩ (.int .i64 5)).setCell ⟨g, 1, none⟩ (.int .i64 5)).heap[g]? = some (box2 5 5) := blk_put (blk_put A 0 _ rfl) 1 _ rfl
  generalize (W.setCell ⟨g, 0, none⟩ (.int .i64 5)).setCell ⟨g, 1, none⟩ (.int .i64 5) = V at *
  clear hJ A z0 z1 y0 y1
  refine HK2.out _ _ ?_
  clear HK2
  apply wp_seq_k
  intro K3 hK3
  have HK3 := Lib.hid hK3
  clear hK3
  refine wp_listed (R := fun W W' => Below W.heap.size W W') 9 [.val (.agg #[.int .i64 5, .int .i64 5]), .val (.agg #[.int .i64 3, .int .i64 3]), .val (.agg #[.int .i64 1, .int .i64 1]), .val (.agg #[.int .i64 1, .int .i64 1, .int .i64 1, .int .i64 1]), .val (.tuple #[.agg #[.int .i64 1, .int .i64 4, .int .i64 1, .int .i64 4], .bool true]), .val (.tuple #[.agg #[.int .i64 1, .int .i64 4, .int .i64 1, .int .i64 4], .bool true]), .val (.agg #[.int .i64 1, .int .i64 4, .int .i64 1, .int .i64 4]), .val (.bool true), newSpec (box4 0 0 0 0) (g + 1)] (fun W => Below w.heap.size w W ∧ W.heap[g]? = some (box2 5 5)) (by kernel_rfl) ⟨hG, hA⟩ ?_ ?_
  · intro vs W hG b hb
    have i13 : b.eval (.tmp 13) = vs 5 := (congrArg (fun x => Act.eval x (.tmp 13)) hb).trans ((fill_in _ 0 5 _ _ 13 (by kernel_rfl) rfl rfl (by simp)).trans (congrArg vs (Nat.zero_add _)))
    have i14 : b.eval (.tmp 14) = vs 0 := (congrArg (fun x => Act.eval x (.tmp 14)) hb).trans ((fill_in _ 0 0 _ _ 14 (by kernel_rfl) rfl rfl (by simp)).trans (congrArg vs (Nat.zero_add _)))
    have i15 : b.eval (.tmp 15) = vs 1 := (congrArg (fun x => Act.eval x (.tmp 15)) hb).trans ((fill_in _ 0 1 _ _ 15 (by kernel_rfl) rfl rfl (by simp)).trans (congrArg vs (Nat.zero_add _)))
    have i16 : b.eval (.tmp 16) = vs 2 := (congrArg (fun x => Act.eval x (.tmp 16)) hb).trans ((fill_in _ 0 2 _ _ 16 (by kernel_rfl) rfl rfl (by simp)).trans (congrArg vs (Nat.zero_add _)))
    have i17 : b.eval (.tmp 17) = vs 3 := (congrArg (fun x => Act.eval x (.tmp 17)) hb).trans ((fill_in _ 0 3 _ _ 17 (by kernel_rfl) rfl rfl (by simp)).trans (congrArg vs (Nat.zero_add _)))
    have i18 : b.eval (.tmp 18) = vs 4 := (congrArg (fun x => Act.eval x (.tmp 18)) hb).trans ((fill_in _ 0 4 _ _ 18 (by kernel_rfl) rfl rfl (by simp)).trans (congrArg vs (Nat.zero_add _)))
    clear hb
    refine And.intro ?_ (And.intro ?_ (And.intro ?_ (And.intro ?_ (And.intro ?_ (And.intro ?_ (And.intro ?_ (And.intro ?_ (And.intro ?_ (trivial)))))))))
    · intro hp K hK
      refine g_no rfl ?_
      exact st_build rfl (by first | (simp only [List.map_toArray, List.map_cons, List.map_nil, eval_const]; done) | (simp only [List.map_toArray, List.map_cons, List.map_nil, eval_const]; rfl)) (by kernel_rfl) (hK _ _ rfl hG (Below.refl _ _))
    · intro hp K hK
      refine g_no rfl ?_
      exact st_build rfl (by first | (simp only [List.map_toArray, List.map_cons, List.map_nil, eval_const]; done) | (simp only [List.map_toArray, List.map_cons, List.map_nil, eval_const]; rfl)) (by kernel_rfl) (hK _ _ rfl hG (Below.refl _ _))
    · intro hp K hK
      refine g_no rfl ?_
      exact st_build rfl (by first | (simp only [List.map_toArray, List.map_cons, List.map_nil, eval_const]; done) | (simp only [List.map_toArray, List.map_cons, List.map_nil, eval_const]; rfl)) (by kernel_rfl) (hK _ _ rfl hG (Below.refl _ _))
    · intro hp K hK
      refine g_no rfl ?_
      exact st_build rfl (by first | (simp only [List.map_toArray, List.map_cons, List.map_nil, eval_const]; done) | (simp only [List.map_toArray, List.map_cons, List.map_nil, eval_const]; rfl)) (by kernel_rfl) (hK _ _ rfl hG (Below.refl _ _))
    · intro hp K hK
      refine g_no rfl ?_
      have e14 : b.eval (.tmp 14) = .agg #[.int .i64 5, .int .i64 5] := i14.trans (hp 0 (by kernel_rfl))
      have e15 : b.eval (.tmp 15) = .agg #[.int .i64 3, .int .i64 3] := i15.trans (hp 1 (by kernel_rfl))
      have e16 : b.eval (.tmp 16) = .agg #[.int .i64 1, .int .i64 1] := i16.trans (hp 2 (by kernel_rfl))
      have e17 : b.eval (.tmp 17) = .agg #[.int .i64 1, .int .i64 1, .int .i64 1, .int .i64 1] := i17.trans (hp 3 (by kernel_rfl))
      refine st_call rfl (by first | (simp only [List.map_toArray, List.map_cons, List.map_nil, eval_const, e14, e15, e16, e17]; done) | (simp only [List.map_toArray, List.map_cons, List.map_nil, eval_const, e14, e15, e16, e17]; rfl)) (by kernel_rfl) ?_
      refine (Inside_good 5 5 3 3 1 1 1 1 1 1 _ (by decide)).mono ?_
      rintro e w' ⟨rfl, hb'⟩
      exact ⟨_, rfl, hK _ _ rfl ⟨hG.1.trans (hb'.mono hG.1.size), blk_below hG.2 hb'⟩ hb'⟩
    · intro hp K hK
      refine g_no rfl ?_
      have e18 : b.eval (.tmp 18) = .tuple #[.agg #[.int .i64 1, .int .i64 4, .int .i64 1, .int .i64 4], .bool true] := i18.trans (hp 4 (by kernel_rfl))
      exact st_move (.inl rfl) (e18) (hK _ _ rfl hG (Below.refl _ _))
    · intro hp K hK
      refine g_no rfl ?_
      have e13 : b.eval (.tmp 13) = .tuple #[.agg #[.int .i64 1, .int .i64 4, .int .i64 1, .int .i64 4], .bool true] := i13.trans (hp 5 (by kernel_rfl))
      exact st_extract rfl (e13) (by kernel_rfl) (hK _ _ rfl hG (Below.refl _ _))
    · intro hp K hK
      refine g_no rfl ?_
      have e13 : b.eval (.tmp 13) = .tuple #[.agg #[.int .i64 1, .int .i64 4, .int .i64 1, .int .i64 4], .bool true] := i13.trans (hp 5 (by kernel_rfl))
      exact st_extract rfl (e13) (by kernel_rfl) (hK _ _ rfl hG (Below.refl _ _))
    · intro hp K hK
      refine g_no rfl ?_
      exact st_alloc rfl (new4 _) (hK _ _ ⟨_, rfl, blk_new _ _, (Array.getElem?_eq_some_iff.1 hG.2).1⟩ ⟨hG.1.alloc hG.1.size _, blk_alloc hG.2 _⟩ ((Below.refl _ _).alloc (Nat.le_refl _) _))
  intro vs W hG hp b hb
  have q0 : vs 0 = .agg #[.int .i64 5, .int .i64 5] := hp 0 (by decide)
  have q1 : vs 1 = .agg #[.int .i64 3, .int .i64 3] := hp 1 (by decide)
  have q2 : vs 2 = .agg #[.int .i64 1, .int .i64 1] := hp 2 (by decide)
  have q3 : vs 3 = .agg #[.int .i64 1, .int .i64 1, .int .i64 1, .int .i64 1] := hp 3 (by decide)
  have q4 : vs 4 = .tuple #[.agg #[.int .i64 1, .int .i64 4, .int .i64 1, .int .i64 4], .bool true] := hp 4 (by decide)
  have q5 : vs 5 = .tuple #[.agg #[.int .i64 1, .int .i64 4, .int .i64 1, .int .i64 4], .bool true] := hp 5 (by decide)
  have q6 : vs 6 = .agg #[.int .i64 1, .int .i64 4, .int .i64 1, .int .i64 4] := hp 6 (by decide)
  have q7 : vs 7 = .bool true := hp 7 (by decide)
  have q8 : ∃ gg, (vs 8) = .pointer (some ⟨gg, 0, none⟩) ∧ W.heap[gg]? = some (box4 0 0 0 0) ∧ g + 1 ≤ gg := hp 8 (by decide)
  clear hp
  simp only [fill, Act.put, List.append_eq, List.cons_append, List.nil_append, List.take_succ_cons, List.take_zero, List.setIfInBounds_toArray, List.set_cons_succ, List.set_cons_zero, Nat.reduceAdd, Nat.zero_add, q0, q1, q2, q3, q4, q5, q6, q7] at hb
  subst hb
  simp only [List.append_eq, List.cons_append, List.nil_append, List.drop_succ_cons, List.drop_zero]
  clear q0 q1 q2 q3 q4 q5 q6 q7
  obtain ⟨g2, hv, A, hg2⟩ := q8
  rw [hv]
  clear hv hA
  have z0 : _ = some (Value.int .i64 0) := (blk_cell A 0).trans rfl
  have y0 := blk_frozen A 0
  have z1 : _ = some (Value.int .i64 0) := (blk_cell A 1).trans rfl
  have y1 := blk_frozen A 1
  have z2 : _ = some (Value.int .i64 0) := (blk_cell A 2).trans rfl
  have y2 := blk_frozen A 2
  have z3 : _ = some (Value.int .i64 0) := (blk_cell A 3).trans rfl
  have y3 := blk_frozen A 3
  have hJ := Lib.hid hG
  clear hG
  go_wp2
  replace hJ := hJ.out
  have hg0 : w.heap.size ≤ g := hg
  have hG : Below w.heap.size w ((((W.setCell ⟨g2, 0, none⟩ (.int .i64 1)).setCell ⟨g2, 1, none⟩ (.int .i64 4)).setCell ⟨g2, 2, none⟩ (.int .i64 1)).setCell ⟨g2, 3, none⟩ (.int .i64 4)) ∧ ((((W.setCell ⟨g2, 0, none⟩ (.int .i64 1)).setCell ⟨g2, 1, none⟩ (.int .i64 4)).setCell ⟨g2, 2, none⟩ (.int .i64 1)).setCell ⟨g2, 3, none⟩ (.int .i64 4)).heap[g]? = some (box2 5 5) ∧ ((((W.setCell ⟨g2, 0, none⟩ (.int .i64 1)).setCell ⟨g2, 1, none⟩ (.int .i64 4)).setCell ⟨g2, 2, none⟩ (.int .i64 1)).setCell ⟨g2, 3, none⟩ (.int .i64 4)).heap[g2]? = some (box4 1 4 1 4) := ⟨(below_set (below_set (below_set (below_set hJ.1 (by omega)) (by omega)) (by omega)) (by omega)), ((Below.heap_setCell _ _ _ _ (by show _ ≠ g2; omega)).trans ((Below.heap_setCell _ _ _ _ (by show _ ≠ g2; omega)).trans ((Below.heap_setCell _ _ _ _ (by show _ ≠ g2; omega)).trans ((Below.heap_setCell _ _ _ _ (by show _ ≠ g2; omega)).trans hJ.2)))), (blk_put (blk_put (blk_put (blk_put A 0 _ rfl) 1 _ rfl) 2 _ rfl) 3 _ rfl)⟩
  generalize (((W.setCell ⟨g2, 0, none⟩ (.int .i64 1)).setCell ⟨g2, 1, none⟩ (.int .i64 4)).setCell ⟨g2, 2, none⟩ (.int .i64 1)).setCell ⟨g2, 3, none⟩ (.int .i64 4) = V at *
  clear hJ A z0 z1 z2 z3 y0 y1 y2 y3
  refine HK3.out _ _ ?_
  clear HK3
  apply wp_seq_k
  intro K4 hK4
  have HK4 := Lib.hid hK4
  clear hK4
  refine wp_listed (R := fun W W' => Below W.heap.size W W') 15 [.val (.bool true), .val (.bool true), .val ((bif ((true) == true) then (.bool true) else undef)), .val (.bool (true && true)), .val (.bool (true && true)), .val ((bif ((true && true) == true) then (.agg #[.int .i64 5, .int .i64 5]) else undef)), .val ((bif ((true && true) == true) then (.agg #[.int .i64 5, .int .i64 5]) else undef)), .val ((bif ((true && true) == true) then (.bool true) else undef)), .val (.bool ((true && true) && true)), .val (.bool ((true && true) && true)), .val ((bif (((true && true) && true) == true) then (.agg #[.int .i64 1, .int .i64 4, .int .i64 1, .int .i64 4]) else undef)), .val ((bif (((true && true) && true) == true) then (.agg #[.int .i64 1, .int .i64 4, .int .i64 1, .int .i64 4]) else undef)), .val ((bif (((true && true) && true) == true) then (.bool true) else undef)), .val (.bool (((true && true) && true) && true)), .val (.bool (((true && true) && true) && true))] (fun W => Below w.heap.size w W ∧ W.heap[g]? = some (box2 5 5) ∧ W.heap[g2]? = some (box4 1 4 1 4)) (by kernel_rfl) hG ?_ ?_
  · intro vs W hG b hb
    have e1 : b.eval (.tmp 1) = .pointer (some ⟨g, 0, none⟩) := (congrArg (fun x => Act.eval x (.tmp 1)) hb).trans ((fill_out _ 0 _ (by kernel_rfl)).trans rfl)
    have e2 : b.eval (.tmp 2) = .bool true := (congrArg (fun x => Act.eval x (.tmp 2)) hb).trans ((fill_out _ 0 _ (by kernel_rfl)).trans rfl)
    have e3 : b.eval (.tmp 3) = .pointer (some ⟨g2, 0, none⟩) := (congrArg (fun x => Act.eval x (.tmp 3)) hb).trans ((fill_out _ 0 _ (by kernel_rfl)).trans rfl)
    have e4 : b.eval (.tmp 4) = .bool true := (congrArg (fun x => Act.eval x (.tmp 4)) hb).trans ((fill_out _ 0 _ (by kernel_rfl)).trans rfl)
    have i21 : b.eval (.tmp 21) = vs 0 := (congrArg (fun x => Act.eval x (.tmp 21)) hb).trans ((fill_in _ 0 0 _ _ 21 (by kernel_rfl) rfl rfl (by simp)).trans (congrArg vs (Nat.zero_add _)))
    have i22 : b.eval (.tmp 22) = vs 1 := (congrArg (fun x => Act.eval x (.tmp 22)) hb).trans ((fill_in _ 0 1 _ _ 22 (by kernel_rfl) rfl rfl (by simp)).trans (congrArg vs (Nat.zero_add _)))
    have i23 : b.eval (.tmp 23) = vs 2 := (congrArg (fun x => Act.eval x (.tmp 23)) hb).trans ((fill_in _ 0 2 _ _ 23 (by kernel_rfl) rfl rfl (by simp)).trans (congrArg vs (Nat.zero_add _)))
    have i24 : b.eval (.tmp 24) = vs 3 := (congrArg (fun x => Act.eval x (.tmp 24)) hb).trans ((fill_in _ 0 3 _ _ 24 (by kernel_rfl) rfl rfl (by simp)).trans (congrArg vs (Nat.zero_add _)))
    have i25 : b.eval (.tmp 25) = vs 4 := (congrArg (fun x => Act.eval x (.tmp 25)) hb).trans ((fill_in _ 0 4 _ _ 25 (by kernel_rfl) rfl rfl (by simp)).trans (congrArg vs (Nat.zero_add _)))
    have i26 : b.eval (.tmp 26) = vs 5 := (congrArg (fun x => Act.eval x (.tmp 26)) hb).trans ((fill_in _ 0 5 _ _ 26 (by kernel_rfl) rfl rfl (by simp)).trans (congrArg vs (Nat.zero_add _)))
    have i27 : b.eval (.tmp 27) = vs 6 := (congrArg (fun x => Act.eval x (.tmp 27)) hb).trans ((fill_in _ 0 6 _ _ 27 (by kernel_rfl) rfl rfl (by simp)).trans (congrArg vs (Nat.zero_add _)))
    have i28 : b.eval (.tmp 28) = vs 7 := (congrArg (fun x => Act.eval x (.tmp 28)) hb).trans ((fill_in _ 0 7 _ _ 28 (by kernel_rfl) rfl rfl (by simp)).trans (congrArg vs (Nat.zero_add _)))
    have i29 : b.eval (.tmp 29) = vs 8 := (congrArg (fun x => Act.eval x (.tmp 29)) hb).trans ((fill_in _ 0 8 _ _ 29 (by kernel_rfl) rfl rfl (by simp)).trans (congrArg vs (Nat.zero_add _)))
    have i30 : b.eval (.tmp 30) = vs 9 := (congrArg (fun x => Act.eval x (.tmp 30)) hb).trans ((fill_in _ 0 9 _ _ 30 (by kernel_rfl) rfl rfl (by simp)).trans (congrArg vs (Nat.zero_add _)))
    have i31 : b.eval (.tmp 31) = vs 10 := (congrArg (fun x => Act.eval x (.tmp 31)) hb).trans ((fill_in _ 0 10 _ _ 31 (by kernel_rfl) rfl rfl (by simp)).trans (congrArg vs (Nat.zero_add _)))
    have i32 : b.eval (.tmp 32) = vs 11 := (congrArg (fun x => Act.eval x (.tmp 32)) hb).trans ((fill_in _ 0 11 _ _ 32 (by kernel_rfl) rfl rfl (by simp)).trans (congrArg vs (Nat.zero_add _)))
    have i33 : b.eval (.tmp 33) = vs 12 := (congrArg (fun x => Act.eval x (.tmp 33)) hb).trans ((fill_in _ 0 12 _ _ 33 (by kernel_rfl) rfl rfl (by simp)).trans (congrArg vs (Nat.zero_add _)))
    have i34 : b.eval (.tmp 34) = vs 13 := (congrArg (fun x => Act.eval x (.tmp 34)) hb).trans ((fill_in _ 0 13 _ _ 34 (by kernel_rfl) rfl rfl (by simp)).trans (congrArg vs (Nat.zero_add _)))
    clear hb
    refine And.intro ?_ (And.intro ?_ (And.intro ?_ (And.intro ?_ (And.intro ?_ (And.intro ?_ (And.intro ?_ (And.intro ?_ (And.intro ?_ (And.intro ?_ (And.intro ?_ (And.intro ?_ (And.intro ?_ (And.intro ?_ (And.intro ?_ (trivial)))))))))))))))
    · intro hp K hK
      refine g_no rfl ?_
      exact st_move (.inl rfl) (e2) (hK _ _ rfl hG (Below.refl _ _))
    · intro hp K hK
      refine g_no rfl ?_
      have e21 : b.eval (.tmp 21) = .bool true := i21.trans (hp 0 (by kernel_rfl))
      exact st_move (.inl rfl) (e21) (hK _ _ rfl hG (Below.refl _ _))
    · intro hp K hK
      refine g_is (j := 1) (want := true) (c := true) rfl (yielded_of (d := 22) rfl rfl (i22.trans (hp 1 (by kernel_rfl)))) (fun hb => ?_) (fun hb => hK _ _ (cond_no hb) hG (Below.refl _ _))
      exact st_move (.inl rfl) (e4) (hK _ _ (cond_yes hb).symm hG (Below.refl _ _))
    · intro hp K hK
      refine g_no rfl ?_
      have e22 : b.eval (.tmp 22) = .bool true := i22.trans (hp 1 (by kernel_rfl))
      have e23 : b.eval (.tmp 23) = (bif ((true) == true) then (.bool true) else undef) := i23.trans (hp 2 (by kernel_rfl))
      exact st_pick rfl (e22) (by first | (rw [e23]; exact pick_and) | (rw [show b.eval (Operand.tmp 23) = _ from eval_const _]; exact pick_and)) (hK _ _ rfl hG (Below.refl _ _))
    · intro hp K hK
      refine g_no rfl ?_
      have e24 : b.eval (.tmp 24) = .bool (true && true) := i24.trans (hp 3 (by kernel_rfl))
      exact st_move (.inl rfl) (e24) (hK _ _ rfl hG (Below.refl _ _))
    · intro hp K hK
      refine g_is (j := 4) (want := true) (c := true && true) rfl (yielded_of (d := 25) rfl rfl (i25.trans (hp 4 (by kernel_rfl)))) (fun hb => ?_) (fun hb => hK _ _ (cond_no hb) hG (Below.refl _ _))
      exact st_load rfl (e1) (ld2 hG.2.1) (hK _ _ (cond_yes hb).symm hG (Below.refl _ _))
    · intro hp K hK
      refine g_is (j := 4) (want := true) (c := true && true) rfl (yielded_of (d := 25) rfl rfl (i25.trans (hp 4 (by kernel_rfl)))) (fun hb => ?_) (fun hb => hK _ _ (cond_no hb) hG (Below.refl _ _))
      exact st_build rfl (by first | (simp only [List.map_toArray, List.map_cons, List.map_nil, eval_const]; done) | (simp only [List.map_toArray, List.map_cons, List.map_nil, eval_const]; rfl)) (by kernel_rfl) (hK _ _ (cond_yes hb).symm hG (Below.refl _ _))
    · intro hp K hK
      refine g_is (j := 4) (want := true) (c := true && true) rfl (yielded_of (d := 25) rfl rfl (i25.trans (hp 4 (by kernel_rfl)))) (fun hb => ?_) (fun hb => hK _ _ (cond_no hb) hG (Below.refl _ _))
      have e26 : b.eval (.tmp 26) = (bif ((true && true) == true) then (.agg #[.int .i64 5, .int .i64 5]) else undef) := i26.trans (hp 5 (by kernel_rfl))
      replace e26 := e26.trans (cond_yes hb)
      have e27 : b.eval (.tmp 27) = (bif ((true && true) == true) then (.agg #[.int .i64 5, .int .i64 5]) else undef) := i27.trans (hp 6 (by kernel_rfl))
      replace e27 := e27.trans (cond_yes hb)
      exact st_bin rfl (e26) (e27) (beq2 5 5 5 5 _) (hK _ _ (cond_yes hb).symm hG (Below.refl _ _))
    · intro hp K hK
      refine g_no rfl ?_
      have e25 : b.eval (.tmp 25) = .bool (true && true) := i25.trans (hp 4 (by kernel_rfl))
      have e28 : b.eval (.tmp 28) = (bif ((true && true) == true) then (.bool true) else undef) := i28.trans (hp 7 (by kernel_rfl))
      exact st_pick rfl (e25) (by first | (rw [e28]; exact pick_and) | (rw [show b.eval (Operand.tmp 28) = _ from eval_const _]; exact pick_and)) (hK _ _ rfl hG (Below.refl _ _))
    · intro hp K hK
      refine g_no rfl ?_
      have e29 : b.eval (.tmp 29) = .bool ((true && true) && true) := i29.trans (hp 8 (by kernel_rfl))
      exact st_move (.inl rfl) (e29) (hK _ _ rfl hG (Below.refl _ _))
    · intro hp K hK
      refine g_is (j := 9) (want := true) (c := (true && true) && true) rfl (yielded_of (d := 30) rfl rfl (i30.trans (hp 9 (by kernel_rfl)))) (fun hb => ?_) (fun hb => hK _ _ (cond_no hb) hG (Below.refl _ _))
      exact st_load rfl (e3) (ld4 hG.2.2) (hK _ _ (cond_yes hb).symm hG (Below.refl _ _))
    · intro hp K hK
      refine g_is (j := 9) (want := true) (c := (true && true) && true) rfl (yielded_of (d := 30) rfl rfl (i30.trans (hp 9 (by kernel_rfl)))) (fun hb => ?_) (fun hb => hK _ _ (cond_no hb) hG (Below.refl _ _))
      exact st_build rfl (by first | (simp only [List.map_toArray, List.map_cons, List.map_nil, eval_const]; done) | (simp only [List.map_toArray, List.map_cons, List.map_nil, eval_const]; rfl)) (by kernel_rfl) (hK _ _ (cond_yes hb).symm hG (Below.refl _ _))
    · intro hp K hK
      refine g_is (j := 9) (want := true) (c := (true && true) && true) rfl (yielded_of (d := 30) rfl rfl (i30.trans (hp 9 (by kernel_rfl)))) (fun hb => ?_) (fun hb => hK _ _ (cond_no hb) hG (Below.refl _ _))
      have e31 : b.eval (.tmp 31) = (bif (((true && true) && true) == true) then (.agg #[.int .i64 1, .int .i64 4, .int .i64 1, .int .i64 4]) else undef) := i31.trans (hp 10 (by kernel_rfl))
      replace e31 := e31.trans (cond_yes hb)
      have e32 : b.eval (.tmp 32) = (bif (((true && true) && true) == true) then (.agg #[.int .i64 1, .int .i64 4, .int .i64 1, .int .i64 4]) else undef) := i32.trans (hp 11 (by kernel_rfl))
      replace e32 := e32.trans (cond_yes hb)
      exact st_bin rfl (e31) (e32) (beq4 1 4 1 4 1 4 1 4 _) (hK _ _ (cond_yes hb).symm hG (Below.refl _ _))
    · intro hp K hK
      refine g_no rfl ?_
      have e30 : b.eval (.tmp 30) = .bool ((true && true) && true) := i30.trans (hp 9 (by kernel_rfl))
      have e33 : b.eval (.tmp 33) = (bif (((true && true) && true) == true) then (.bool true) else undef) := i33.trans (hp 12 (by kernel_rfl))
      exact st_pick rfl (e30) (by first | (rw [e33]; exact pick_and) | (rw [show b.eval (Operand.tmp 33) = _ from eval_const _]; exact pick_and)) (hK _ _ rfl hG (Below.refl _ _))
    · intro hp K hK
      refine g_no rfl ?_
      have e34 : b.eval (.tmp 34) = .bool (((true && true) && true) && true) := i34.trans (hp 13 (by kernel_rfl))
      exact st_move (.inr rfl) (e34) (hK _ _ rfl hG (Below.refl _ _))
  intro vs W hG hp b hb
  have q14 : vs 14 = .bool (((true && true) && true) && true) := hp 14 (by decide)
  clear hp
  simp only [fill, Act.put, List.append_eq, List.cons_append, List.nil_append, List.take_succ_cons, List.take_zero, List.setIfInBounds_toArray, List.set_cons_succ, List.set_cons_zero, Nat.reduceAdd, Nat.zero_add, q14] at hb
  subst hb
  refine wpList_nil ?_
  clear q14
  refine HK4.out _ _ ?_
  clear HK4
  go_wp2
  go_ret
  exact ⟨rfl, hG.1⟩
end Go.Proofs.Ytfcimgdogkpbcaa.W
