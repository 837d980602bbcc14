/- Window: sums and differences of places; what comes out of a frame. -/
import Derived.Test.YtfcimgdogkpbcaaW1
import Derived.StillTailTactics
import Derived.Deep.RegionWith
import Derived.Deep.RegionHeld3
import Derived.IntWalk
namespace Go.Proofs.Ytfcimgdogkpbcaa.W
open Go.RowKit T1 F
set_option linter.unusedVariables false
set_option linter.unusedSimpArgs false
set_option maxRecDepth 100000

theorem farith (op : BinOp) (x y r : Nat) (h : floatBits op .f64 x y = some r) (w : World) : (Op.Complex.arith op .f64 x y).run Try.prog w = .ok r w := by
  unfold floatBits at h
  unfold Op.Complex.arith
  cases op <;> simp only at h <;> first | (cases h; done) | skip
  all_goals simp [Op.floatArith, h]

theorem cadd (a b c d : Int) (ha : Sm a) (hb : Sm b) (hc : Sm c) (hd : Sm d) (hac : Sm (a + c)) (hbd : Sm (b + d)) (w : World) : (binOp .add 51 (pl a b) (pl c d)).run Try.prog w = .ok (pl (a + c) (b + d)) w := by
  have e1 := farith .add (F a) (F c) (F (a + c)) (add_F a c ha.lt hc.lt hac.lt) w
  have e2 := farith .add (F b) (F d) (F (b + d)) (add_F b d hb.lt hd.lt hbd.lt) w
  simp [binOp, Op.complexOp, e1, e2]

theorem csub (a b c d : Int) (ha : Sm a) (hb : Sm b) (hc : Sm c) (hd : Sm d) (hac : Sm (a - c)) (hbd : Sm (b - d)) (ya : c = 0 → 0 ≤ a) (yb : d = 0 → 0 ≤ b) (w : World) : (binOp .sub 51 (pl a b) (pl c d)).run Try.prog w = .ok (pl (a - c) (b - d)) w := by
  have e1 := farith .sub (F a) (F c) (F (a - c)) (sub_F a c ha.lt hc.lt hac.lt ya) w
  have e2 := farith .sub (F b) (F d) (F (b - d)) (sub_F b d hb.lt hd.lt hbd.lt yb) w
  simp [binOp, Op.complexOp, e1, e2]

theorem rows_st (a b : Int) (h : Sm a) (w : World) : Calls Try.prog 36 #[pl a b] w fun e w' => e = .returned (.int .i64 a) ∧ w' = w := (rows_is a b h w).mono (fun _ _ h => ⟨h.1, h.2.symm⟩)
theorem cols_st (a b : Int) (h : Sm b) (w : World) : Calls Try.prog 37 #[pl a b] w fun e w' => e = .returned (.int .i64 b) ∧ w' = w := (cols_is a b h w).mono (fun _ _ h => ⟨h.1, h.2.symm⟩)

section
variable {P : Program}
theorem results_c {fn : Func} {p : Tmp} {ty : TypeId} (h : fn.results = #[.cell p ty]) (tmps : Array Value) (w : World) (g : Nat) (t : TypeId) (cs : Array Value) (fr : Nat × Nat) (d : TypeDesc)
    (hp : tmps.getD p undef = .pointer (some ⟨g, 0, none⟩)) (hg : w.heap[g]? = some (.cells cs t fr))
    (hu : P.underlying ty = some d) (hd : (match d with | .struct _ | .array _ _ => true | _ => false) = true) (hi : (P.info? ty).map (·.size) = some cs.size) :
    (results fn tmps).run P w = .ok (.agg cs) w := by
  have hp' : tmps[p]?.getD undef = .pointer (some ⟨g, 0, none⟩) := by simpa using hp
  simp [results, h, hp', asAddr, run_loadVar_row w g t ty cs fr d hg hu hd hi]
end

/-- A frame, as a value: the input's size, the kernel's, the stride, the input's first place, all. -/
abbrev frm (i0 i1 k0 k1 s0 s1 f0 f1 a0 a1 : Int) : Value := .agg #[pl i0 i1, pl k0 k1, pl s0 s1, pl f0 f1, pl a0 a1]

set_option maxHeartbeats 1000000 in
theorem out_is (i0 i1 k0 k1 s0 s1 f0 f1 a0 a1 : Int) (w : World) (ha0 : 0 ≤ a0 ∧ a0 ≤ 1000) (ha1 : 0 ≤ a1 ∧ a1 ≤ 1000) (hk0 : 1 ≤ k0 ∧ k0 ≤ a0) (hk1 : 1 ≤ k1 ∧ k1 ≤ a1) (hs0 : 1 ≤ s0 ∧ s0 ≤ 8) (hs1 : 1 ≤ s1 ∧ s1 ≤ 8) :
    Calls Try.prog 30 #[frm i0 i1 k0 k1 s0 s1 f0 f1 a0 a1] w fun e w' => e = .returned (.agg #[.int .i64 ((a0 - k0) / s0 + 1), .int .i64 ((a1 - k1) / s1 + 1)]) ∧ Below w.heap.size w w' := by
  have E := csub a0 a1 k0 k1 ⟨by omega, by omega⟩ ⟨by omega, by omega⟩ ⟨by omega, by omega⟩ ⟨by omega, by omega⟩ ⟨by omega, by omega⟩ ⟨by omega, by omega⟩ (by omega) (by omega)
  have R1 := Lib.hid (rows_st (a0 - k0) (a1 - k1) ⟨by omega, by omega⟩)
  have R2 := Lib.hid (rows_st s0 s1 ⟨by omega, by omega⟩)
  have R3 := Lib.hid (cols_st (a0 - k0) (a1 - k1) ⟨by omega, by omega⟩)
  have R4 := Lib.hid (cols_st s0 s1 ⟨by omega, by omega⟩)
  have q0 : 0 ≤ (a0 - k0) / s0 := Int.ediv_nonneg (by omega) (by omega)
  have q1 : 0 ≤ (a1 - k1) / s1 := Int.ediv_nonneg (by omega) (by omega)
  have p0 : (a0 - k0) / s0 ≤ a0 - k0 := Int.ediv_le_self _ (by omega)
  have p1 : (a1 - k1) / s1 ≤ a1 - k1 := Int.ediv_le_self _ (by omega)
  have n0 : ¬ s0 = 0 := by omega
  have n1 : ¬ s1 = 0 := by omega
  have m0 : (s0 == 0) = false := beq_eq_false_iff_ne.mpr n0
  have m1 : (s1 == 0) = false := beq_eq_false_iff_ne.mpr n1
  have v0 : IntKind.i64.wrap ((a0 - k0).tdiv s0) = (a0 - k0) / s0 := IntWalk.i64_quo _ _ ⟨by omega, by omega, hs0.1⟩
  have v1 : IntKind.i64.wrap ((a1 - k1).tdiv s1) = (a1 - k1) / s1 := IntWalk.i64_quo _ _ ⟨by omega, by omega, hs1.1⟩
  have u0 : IntKind.i64.wrap ((a0 - k0) / s0 + 1) = (a0 - k0) / s0 + 1 := IntWalk.i64_in _ (by omega)
  have u1 : IntKind.i64.wrap ((a1 - k1) / s1 + 1) = (a1 - k1) / s1 + 1 := IntWalk.i64_in _ (by omega)
  clear q0 q1 p0 p1 ha0 ha1 hk0 hk1 hs0 hs1
  have BK := blk_alloc (blk_new w (.cells #[pl i0 i1, pl k0 k1, pl s0 s1, pl f0 f1, pl a0 a1] 53)) (.cells #[.int .i64 0, .int .i64 0] 34)
  have BR := blk_new2 w (.cells #[pl i0 i1, pl k0 k1, pl s0 s1, pl f0 f1, pl a0 a1] 53) (.cells #[.int .i64 0, .int .i64 0] 34)
  have HB : Below w.heap.size w _ := below_alloc (below_alloc (Below.refl _ _) (.cells #[pl i0 i1, pl k0 k1, pl s0 s1, pl f0 f1, pl a0 a1] 53)) (.cells #[.int .i64 0, .int .i64 0] 34)
  have BK := Lib.hid BK
  have BR := Lib.hid BR
  have HB := Lib.hid HB
  go_enter Try.func30, Try.ntmps30
  go_wp2
  generalize (w.alloc (.cells #[pl i0 i1, pl k0 k1, pl s0 s1, pl f0 f1, pl a0 a1] 53)).alloc (.cells #[.int .i64 0, .int .i64 0] 34) = u at *
  have c2 : u.cell? ⟨w.heap.size, 2, none⟩ = some (pl s0 s1) := (blk_cell BK.out 2).trans rfl
  go_still_tail 15, (by kernel_rfl)
  still_call (R1.out _)
  repeat still_step
  still_call (R2.out _)
  repeat still_step
  still_call (R3.out _)
  repeat still_step
  still_call (R4.out _)
  repeat still_step
  refine wpStill_nil ?_
  change wpList _ _ _ _ _ u.drew
  have BR3 := Lib.hid (show u.drew.heap[w.heap.size + 1]? = some (.cells #[.int .i64 0, .int .i64 0] 34 (0, 0)) from BR.out)
  have HB3 := Lib.hid (show Below w.heap.size w u.drew from HB.out.drew)
  generalize u.drew = x at *
  have hr0 : x.cell? ⟨w.heap.size + 1, 0, none⟩ = some (.int .i64 0) := (blk_cell BR3.out 0).trans rfl
  have hr1 : x.cell? ⟨w.heap.size + 1, 1, none⟩ = some (.int .i64 0) := (blk_cell BR3.out 1).trans rfl
  have hf0 := blk_frozen BR3.out 0
  have hf1 := blk_frozen BR3.out 1
  go_wp2
  refine bodyPost_ret (results_c rfl _ _ (w.heap.size + 1) 34 #[.int .i64 ((a0 - k0) / s0 + 1), .int .i64 ((a1 - k1) / s1 + 1)] (0, 0) _ rfl (blk_put (blk_put BR3.out 0 _ rfl) 1 _ rfl) Try.underlying34 rfl (by kernel_rfl)) rfl ?_
  exact ⟨rfl, below_set (below_set HB3.out (Nat.le_succ _)) (Nat.le_succ _)⟩
end Go.Proofs.Ytfcimgdogkpbcaa.W
