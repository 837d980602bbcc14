/- tensor.Of: the place of an element, or none; for every shape and number. No condition beyond those in its statements. -/
import Derived.Test.YtfcimgdogkpbcaaT2
import Derived.StillTailTactics
import Derived.IntWalk
namespace Go.Proofs.Ytfcimgdogkpbcaa.T1
open Go.RowKit
set_option linter.unusedVariables false
set_option maxRecDepth 100000
section
variable {P : Program}
theorem results_ct {fn : Func} {p u : Tmp} {ty : TypeId} (h : fn.results = #[.cell p ty, .tmp u]) (tmps : Array Value) (w : World) (g : Nat) (t : TypeId) (cs : Array Value) (fr : Nat × Nat) (d : TypeDesc)
    (hp : tmps.getD p undef = .pointer (some ⟨g, 0, none⟩)) (hg : w.heap[g]? = some (.cells cs t fr))
    (hu : P.underlying ty = some d) (hd : (match d with | .struct _ | .array _ _ => true | _ => false) = true) (hi : (P.info? ty).map (·.size) = some cs.size) :
    (results fn tmps).run P w = .ok (.tuple #[.agg cs, tmps.getD u undef]) w := by
  have hp' : tmps[p]?.getD undef = .pointer (some ⟨g, 0, none⟩) := by simpa using hp
  simp [results, h, hp', asAddr, run_loadVar_row w g t ty cs fr d hg hu hd hi]
end
theorem blk_new2 (w : World) (o1 o2 : Obj) : ((w.alloc o1).alloc o2).heap[w.heap.size + 1]? = some o2 := by
  have h := blk_new (w.alloc o1) o2
  rwa [show (w.alloc o1).heap.size = w.heap.size + 1 by simp] at h

theorem of_neg (a b c i : Int) (w : World) (h0 : i < 0) : Calls Try.prog 18 #[.agg #[.int .i64 a, .int .i64 b, .int .i64 c], .int .i64 i] w fun e w' => e = .returned (.tuple #[.agg #[.int .i64 0, .int .i64 0, .int .i64 0], .bool false]) ∧ Below w.heap.size w w' := by
  have g0 : decide (i < 0) = true := decide_eq_true h0
  have HB := Lib.hid (below_alloc (below_alloc (Below.refl _ _) (box3 a b c)) (box3 0 0 0) : Below w.heap.size w _)
  go_enter Try.func18, Try.ntmps18
  go_wp2
  refine bodyPost_ret (results_ct rfl _ _ (w.heap.size + 1) 22 #[.int .i64 0, .int .i64 0, .int .i64 0] (0, 0) _ rfl (blk_new2 _ _ _) Try.underlying22 rfl (by kernel_rfl)) rfl ?_
  exact ⟨rfl, HB.out⟩

theorem of_big (a b c i n : Int) (w : World) (h : sizeR a b c = n) (h0 : 0 ≤ i) (h1 : n ≤ i) : Calls Try.prog 18 #[.agg #[.int .i64 a, .int .i64 b, .int .i64 c], .int .i64 i] w fun e w' => e = .returned (.tuple #[.agg #[.int .i64 0, .int .i64 0, .int .i64 0], .bool false]) ∧ Below w.heap.size w w' := by
  have g0 : decide (i < 0) = false := decide_eq_false (by omega)
  have g1 : decide (n ≤ i) = true := decide_eq_true h1
  have BK := Lib.hid (blk_alloc (blk_new w (box3 a b c)) (box3 0 0 0))
  have BR := Lib.hid (blk_new2 w (box3 a b c) (box3 0 0 0))
  have HB := Lib.hid (below_alloc (below_alloc (Below.refl _ _) (box3 a b c)) (box3 0 0 0) : Below w.heap.size w _)
  go_enter Try.func18, Try.ntmps18
  go_wp2_with (go_at_call 28; refine (size_eq a b c n h _).mono ?_; rintro e w' ⟨rfl, hb⟩; have BK2 := Lib.hid (blk_below BK.out hb); have BR2 := Lib.hid (blk_below BR.out hb); have HB2 := Lib.hid (below_step HB.out hb); clear hb BK HB BR; have BK := BK2; have HB := HB2; have BR := BR2; clear BK2 HB2 BR2; have hr0 : w'.cell? ⟨w.heap.size + 1, 0, none⟩ = some (.int .i64 0) := (blk_cell BR.out 0).trans rfl; have hr1 : w'.cell? ⟨w.heap.size + 1, 1, none⟩ = some (.int .i64 0) := (blk_cell BR.out 1).trans rfl; have hr2 : w'.cell? ⟨w.heap.size + 1, 2, none⟩ = some (.int .i64 0) := (blk_cell BR.out 2).trans rfl; have hf0 := blk_frozen BR.out 0; have hf1 := blk_frozen BR.out 1; have hf2 := blk_frozen BR.out 2)
  refine bodyPost_ret (results_ct rfl _ _ (w.heap.size + 1) 22 #[.int .i64 0, .int .i64 0, .int .i64 0] (0, 0) _ rfl (blk_put (blk_put (blk_put BR.out 0 (.int .i64 0) rfl) 1 (.int .i64 0) rfl) 2 (.int .i64 0) rfl) Try.underlying22 rfl (by kernel_rfl)) rfl ?_
  exact ⟨rfl, below_set (below_set (below_set HB.out (Nat.le_succ _)) (Nat.le_succ _)) (Nat.le_succ _)⟩

theorem of_good (a b c i n : Int) (w : World) (h : sizeR a b c = n) (h0 : 0 ≤ i) (h1 : i < n) (hb0 : 1 ≤ b) (hc0 : 1 ≤ c) (hi : i < 20000) : Calls Try.prog 18 #[.agg #[.int .i64 a, .int .i64 b, .int .i64 c], .int .i64 i] w fun e w' => e = .returned (.tuple #[.agg #[.int .i64 (i / c / b), .int .i64 (i / c % b), .int .i64 (i % c)], .bool true]) ∧ Below w.heap.size w w' := by
  have g0 : decide (i < 0) = false := decide_eq_false (by omega)
  have g1 : decide (n ≤ i) = false := decide_eq_false (by omega)
  have BK := Lib.hid (blk_alloc (blk_new w (box3 a b c)) (box3 0 0 0))
  have BR := Lib.hid (blk_new2 w (box3 a b c) (box3 0 0 0))
  have HB := Lib.hid (below_alloc (below_alloc (Below.refl _ _) (box3 a b c)) (box3 0 0 0) : Below w.heap.size w _)
  go_enter Try.func18, Try.ntmps18
  go_wp2_with (go_at_call 28; refine (size_eq a b c n h _).mono ?_; rintro e w' ⟨rfl, hb⟩; have BK2 := Lib.hid (blk_below BK.out hb); have BR2 := Lib.hid (blk_below BR.out hb); have HB2 := Lib.hid (below_step HB.out hb); clear hb BK HB BR; have BK := BK2; have HB := HB2; have BR := BR2; clear BK2 HB2 BR2; have hk0 : w'.cell? ⟨w.heap.size, 0, none⟩ = some (.int .i64 a) := (blk_cell BK.out 0).trans rfl; have hk1 : w'.cell? ⟨w.heap.size, 1, none⟩ = some (.int .i64 b) := (blk_cell BK.out 1).trans rfl; have hk2 : w'.cell? ⟨w.heap.size, 2, none⟩ = some (.int .i64 c) := (blk_cell BK.out 2).trans rfl)
  have qb : (b == 0) = false := beq_eq_false_iff_ne.mpr (by omega)
  have qc : (c == 0) = false := beq_eq_false_iff_ne.mpr (by omega)
  have nb : ¬ b = 0 := by omega
  have nc : ¬ c = 0 := by omega
  have hic : 0 ≤ i / c := Int.ediv_nonneg h0 (by omega)
  have hic1 : i / c ≤ i := Int.ediv_le_self _ h0
  have v1 : IntKind.i64.wrap (i.tdiv c) = i / c := IntWalk.i64_quo _ _ ⟨h0, by omega, hc0⟩
  have v2 : IntKind.i64.wrap ((i / c).tdiv b) = i / c / b := IntWalk.i64_quo _ _ ⟨hic, by omega, hb0⟩
  have v3 : i.tmod c = i % c := Int.tmod_eq_emod_of_nonneg h0
  have v4 : (i / c).tmod b = i / c % b := Int.tmod_eq_emod_of_nonneg hic
  clear h h0 h1 hic hic1 hb0 hc0 hi
  go_still_tail 19, (by kernel_rfl)
  change wpList _ _ _ _ _ w'.drew
  have BR3 := Lib.hid (show w'.drew.heap[w.heap.size + 1]? = some (box3 0 0 0) from BR.out)
  have HB3 := Lib.hid (show Below w.heap.size w w'.drew from HB.out.drew)
  generalize w'.drew = u at *
  have hr0 : u.cell? ⟨w.heap.size + 1, 0, none⟩ = some (.int .i64 0) := (blk_cell BR3.out 0).trans rfl
  have hr1 : u.cell? ⟨w.heap.size + 1, 1, none⟩ = some (.int .i64 0) := (blk_cell BR3.out 1).trans rfl
  have hr2 : u.cell? ⟨w.heap.size + 1, 2, none⟩ = some (.int .i64 0) := (blk_cell BR3.out 2).trans rfl
  have hf0 := blk_frozen BR3.out 0
  have hf1 := blk_frozen BR3.out 1
  have hf2 := blk_frozen BR3.out 2
  go_wp2
  refine bodyPost_ret (results_ct rfl _ _ (w.heap.size + 1) 22 #[.int .i64 (i / c / b), .int .i64 (i / c % b), .int .i64 (i % c)] (0, 0) _ rfl (blk_put (blk_put (blk_put BR3.out 0 _ rfl) 1 _ rfl) 2 _ rfl) Try.underlying22 rfl (by kernel_rfl)) rfl ?_
  exact ⟨rfl, below_set (below_set (below_set HB3.out (Nat.le_succ _)) (Nat.le_succ _)) (Nat.le_succ _)⟩

/-- Which element lies at a place. -/
def ofR (a b c i : Int) : Int × Int × Int × Bool := if 0 ≤ i ∧ i < sizeR a b c then (i / c / b, i / c % b, i % c, true) else (0, 0, 0, false)

theorem of_any (a b c i : Int) (w : World) : Calls Try.prog 18 #[.agg #[.int .i64 a, .int .i64 b, .int .i64 c], .int .i64 i] w fun e w' => e = .returned (.tuple #[.agg #[.int .i64 (ofR a b c i).1, .int .i64 (ofR a b c i).2.1, .int .i64 (ofR a b c i).2.2.1], .bool (ofR a b c i).2.2.2]) ∧ Below w.heap.size w w' := by
  by_cases h0 : 0 ≤ i
  · by_cases h1 : i < sizeR a b c
    · have e : ofR a b c i = (i / c / b, i / c % b, i % c, true) := by unfold ofR; rw [if_pos ⟨h0, h1⟩]
      rw [e]
      obtain ⟨⟨a0, a1⟩, ⟨b0, b1⟩, ⟨c0, c1⟩, hl, hs⟩ := size_nz a b c (by omega)
      exact of_good a b c i _ w rfl h0 h1 b0 c0 (by omega)
    · have e : ofR a b c i = (0, 0, 0, false) := by unfold ofR; rw [if_neg (fun k => h1 k.2)]
      rw [e]
      exact of_big a b c i _ w rfl h0 (by omega)
  · have e : ofR a b c i = (0, 0, 0, false) := by unfold ofR; rw [if_neg (fun k => h0 k.1)]
    rw [e]
    exact of_neg a b c i w (by omega)
end Go.Proofs.Ytfcimgdogkpbcaa.T1
