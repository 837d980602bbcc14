/- WindowTaps: which places of any kernel lie over the input, for any output (P22.2). -/
import Derived.Test.YtfcimgdogkpbcaaRows
import Derived.Test.YtfcimgdogkpbcaaW18
import Derived.WalkKit
import Derived.ProofKit
import Derived.OpenShut
import Derived.ShutString
import Derived.ChangeOld
import Derived.Below
import Derived.SizedLaws
import Derived.Lib.SmallJoins
import Derived.Carry
import Derived.Laws.IdiomArrays
namespace Go.Proofs.Ytfcimgdogkpbcaa.windowTaps
open Go.ChangeShapes Go.WideShapes Go.ChangeAt Go.RowKit
open Go.ChangeMaps (open_string shut_string)
set_option linter.unusedVariables false

section
open Go.Joins Go.Deep
variable {P : Program} {w : World}
theorem int_cell {r : Reach} {b0 : Nat} {u : TypeId} {v : Value} {k : IntKind} (hu : P.underlying u = some (.int k)) (h : Cell.okWide P w r b0 u v) : ∃ x, v = .int k x ∧ k.has x := by
  unfold Cell.okWide at h
  rw [hu] at h
  cases v <;> simp only [Cell.ok, hu] at h <;> first | (exact absurd h id) | skip
  rename_i k' x
  obtain ⟨rfl, h⟩ := h
  exact ⟨x, rfl, h⟩
theorem has_int {r : Reach} {b0 : Nat} {u : TypeId} {a : Int} {k : IntKind} (hu : P.underlying u = some (.int k)) (h : Value.okWide P w r b0 u (.int k a)) : k.has a := by
  unfold Value.okWide at h
  rw [hu] at h
  obtain ⟨x, hx, hh⟩ := int_cell hu h
  cases hx
  exact hh
theorem ints_of {k : IntKind} : ∀ (l : List Value), (∀ v ∈ l, ∃ x, v = .int k x ∧ k.has x) → ∃ xs : List Int, l = xs.map (Value.int k) ∧ ∀ x ∈ xs, k.has x
  | [], _ => ⟨[], rfl, fun _ h => by cases h⟩
  | v :: l, h => by
    obtain ⟨x, rfl, hx⟩ := h v (List.mem_cons_self)
    obtain ⟨xs, rfl, hxs⟩ := ints_of l (fun v hv => h v (List.mem_cons_of_mem _ hv))
    exact ⟨x :: xs, rfl, fun y hy => by
      rcases List.mem_cons.1 hy with rfl | hy
      · exact hx
      · exact hxs y hy⟩
theorem open_flat {r : Reach} {b0 n : Nat} {t u : TypeId} {v : Value} {k : IntKind} (hd : (match P.underlying t with | some (.struct _) | some (.array _ _) => true | _ => false) = true) (hu : P.underlying u = some (.int k)) (hC : P.cellsOf t = n) (hts : P.cellTypes P.depth t = some (List.replicate n u)) (hn : 0 < n)
    (h : Value.okWide P w r b0 t v) : ∃ xs : List Int, xs.length = n ∧ v = .agg (xs.map (Value.int k)).toArray ∧ ∀ x ∈ xs, k.has x := by
  have h' : ∃ cs, v = .agg cs ∧ cs.size = P.cellsOf t ∧ Row.okWide P w r b0 t cs := by
    unfold Value.okWide at h
    split at h
    · exact h
    · exact h
    · rename_i h1 h2
      exfalso
      revert hd
      split
      · rename_i fs hu'; exact absurd hu' (h1 fs)
      · rename_i m e hu'; exact absurd hu' (h2 m e)
      · simp
  obtain ⟨cs, rfl, hsz, ts, hts', _, hall⟩ := h'
  rw [hts] at hts'
  obtain rfl := Option.some.inj hts'
  obtain ⟨xs, hxs, hb⟩ := ints_of (k := k) cs.toList (fun v hv => by
    obtain ⟨i, hi⟩ := List.getElem?_of_mem hv
    rw [Array.getElem?_toList] at hi
    obtain ⟨u', hu', hc⟩ := hall i v hi
    have : u' = u := by
      rw [List.getElem?_replicate] at hu'
      split at hu'
      · exact (Option.some.inj hu').symm
      · cases hu'
    subst this
    exact int_cell hu hc)
  refine ⟨xs, ?_, ?_, hb⟩
  · have := congrArg List.length hxs
    simp at this
    omega
  · congr 1
    rw [← hxs]
end
theorem cells37 : Try.prog.cellsOf 37 = 10 := by kernel_rfl
theorem types37 : Try.prog.cellTypes Try.prog.depth 37 = some (List.replicate 10 3) := by kernel_rfl
theorem open37 {r : Reach} {b0 : Nat} {w : World} {v : Value} (h : Value.okWide Try.prog w r b0 37 v) : ∃ x0 x1 x2 x3 x4 x5 x6 x7 x8 x9 : Int, v = .agg #[.int .i64 x0, .int .i64 x1, .int .i64 x2, .int .i64 x3, .int .i64 x4, .int .i64 x5, .int .i64 x6, .int .i64 x7, .int .i64 x8, .int .i64 x9] := by
  obtain ⟨xs, hxl, rfl, hxb⟩ := open_flat (by kernel_rfl) Try.underlying3 cells37 types37 (by decide) h
  match xs, hxl with
  | [x0, x1, x2, x3, x4, x5, x6, x7, x8, x9], _ => exact ⟨x0, x1, x2, x3, x4, x5, x6, x7, x8, x9, rfl⟩
theorem laidOut : laidOutB Try.prog = true := by kernel_rfl
theorem own : ownKnob Try.prog.godebug = none := by kernel_rfl
set_option maxRecDepth 100000 in
theorem lifted (os : Os) (started : os.Started) (H : Type) (enc : TypeId × Value → H) :
    ReturnsInHanded {} Try.checked os 9 .any (Rows.windowTapsSpec.pre6 enc Try.prog Try.f9 Rows.windowTapsRow.domain false) (Rows.windowTapsSpec.post enc Try.prog Try.f9 false true false false) := by
  refine returnsInHanded_of_change_sized (C := Try.checked) own started (by kernel_rfl) Try.func9
    (ChangeSpec.witness6 (enc := enc) (C := Try.checked) false ⟨#[], #[.agg #[.int .i64 0, .int .i64 0, .int .i64 0, .int .i64 0, .int .i64 0, .int .i64 0, .int .i64 0, .int .i64 0, .int .i64 0, .int .i64 0], .int .i64 0, .int .i64 0], []⟩ 8 (by kernel_rfl) (by kernel_rfl) (by kernel_rfl) (by kernel_rfl)) ?_
  intro W base args ds gs before hval0 hW hcnd hsz0 _
  have hval : ∀ (j : Nat) t v, Try.f9.params[j]? = some t → args[j]? = some v → Value.okWide Try.prog W .any base t v := hval0
  have hW' := hW
  obtain ⟨p, q, hA0, hV, rfl, hfz, hnd⟩ := hW
  have hA : DataW.TrodAll enc Try.prog W 0 (fun _ => true) true Try.f9.params.toList args.toList ds p := hA0
  rw [Try.params9] at hA hval
  obtain ⟨v0, vs0, d0, ds0, p0, q0, hargs, rfl, rfl, h0, r0⟩ := trodAll_cons hA
  obtain ⟨v1, vs1, d1, ds1, p1, q1, rfl, rfl, rfl, h1, r1⟩ := trodAll_cons r0
  obtain ⟨v2, vs2, d2, ds2, p2, q2, rfl, rfl, rfl, h2, r2⟩ := trodAll_cons r1
  obtain ⟨rfl, rfl, rfl⟩ := trodAll_nil r2
  obtain rfl : args = #[v0, v1, v2] := by cases args; simp_all
  obtain ⟨rfl, rfl⟩ := trodVars_none hV
  have h0k := h0
  have hlt0 : ∀ x ∈ p0, x.block < W.heap.size := fun x hx => by simpa using hW'.lt x (by simp [hx])
  obtain ⟨x0, x1, x2, x3, x4, x5, x6, x7, x8, x9, rfl⟩ := open37 (hval 0 37 v0 rfl rfl)
  obtain ⟨a1, rfl, rfl, rfl, w1⟩ := open_int Try.underlying3 (hval 1 3 v1 rfl rfl) h1
  obtain ⟨a2, rfl, rfl, rfl, w2⟩ := open_int Try.underlying3 (hval 2 3 v2 rfl rfl) h2
  clear hA0 hval0 hsz0
  refine (_root_.Go.Proofs.Ytfcimgdogkpbcaa.W.taps_law x0 x1 x2 x3 x4 x5 x6 x7 x8 x9 a1 a2 W (has_int Try.underlying3 (hval 1 3 _ rfl rfl)) (has_int Try.underlying3 (hval 2 3 _ rfl rfl))).mono fun e W' ⟨he, bel⟩ => ?_
  subst he
  exact ⟨_, rfl, _, _, _, [], _, [], hW', trodAll_mk1 (shut_bool Try.underlying4 _), (trodAll_cons_mk (Below.trod laidOut (by kernel_rfl) (of_decide_eq_true (by kernel_rfl)) h0k bel hlt0) (trodAll_cons_mk (shut_int Try.underlying3 w1) (trodAll_cons_mk (shut_int Try.underlying3 w2) trodAll_mk0))), rfl, bel.frame _, fun h => by cases h⟩
theorem over : Rows.windowTapsRow.holds Try.pinned (OpenSpec.ofChange Rows.windowTapsSpec) :=
  OpenClaim.holds_of_wide 9 Try.f9 rfl rfl rfl rfl rfl rfl rfl ⟨rfl, rfl, rfl, rfl, rfl⟩ rfl rfl rfl rfl rfl (by kernel_rfl) Try.func9 (by kernel_rfl)
    (of_decide_eq_true (by kernel_rfl)) (by unfold Func.isWrapper; first | (rw [if_pos (by decide +kernel)]; kernel_rfl) | (rw [if_neg (by decide +kernel)]; exact ⟨rfl, rfl⟩))
    (fun os started H enc _ => lifted os started H enc)
theorem proved : Rows.WindowTapsSaid := over
#print axioms proved
end Go.Proofs.Ytfcimgdogkpbcaa.windowTaps
namespace Go.Proofs.Ytfcimgdogkpbcaa
/-- The row, under a short name, for the claim. -/
theorem windowTaps_holds : Rows.WindowTapsSaid := windowTaps.proved
end Go.Proofs.Ytfcimgdogkpbcaa
