/- GraphLong: no constant has more numbers than it may, and no network more constants and nodes (P23.2). -/
import Derived.Test.YtieoklpgnmbpjaaRows
import Derived.Test.YtieoklpgnmbpjaaE22
import Derived.WalkKit
import Derived.ProofKit
import Derived.OpenShut
import Derived.ShutString
import Derived.ChangeOld
import Derived.Below
import Derived.SizedLaws
import Derived.Lib.SmallJoins
import Derived.Carry
import Derived.Laws.IdiomArrays
namespace Go.Proofs.Ytieoklpgnmbpjaa.graphLong
open Go.ChangeShapes Go.WideShapes Go.ChangeAt Go.RowKit
open Go.ChangeMaps (open_string shut_string)
set_option linter.unusedVariables false

section
open Go.Joins Go.Deep
variable {P : Program} {w : World}
theorem int_cell {r : Reach} {b0 : Nat} {u : TypeId} {v : Value} {k : IntKind} (hu : P.underlying u = some (.int k)) (h : Cell.okWide P w r b0 u v) : ∃ x, v = .int k x ∧ k.has x := by
  unfold Cell.okWide at h
  rw [hu] at h
  cases v <;> simp only [Cell.ok, hu] at h <;> first | (exact absurd h id) | skip
  rename_i k' x
  obtain ⟨rfl, h⟩ := h
  exact ⟨x, rfl, h⟩
theorem has_int {r : Reach} {b0 : Nat} {u : TypeId} {a : Int} {k : IntKind} (hu : P.underlying u = some (.int k)) (h : Value.okWide P w r b0 u (.int k a)) : k.has a := by
  unfold Value.okWide at h
  rw [hu] at h
  obtain ⟨x, hx, hh⟩ := int_cell hu h
  cases hx
  exact hh
end
theorem has_u8 {x : Int} (h : IntKind.u8.has x) : 0 ≤ x ∧ x < 256 := by
  have e1 : IntKind.u8.min = 0 := by decide
  have e2 : IntKind.u8.max = 255 := by decide
  unfold IntKind.has at h
  omega
theorem own : ownKnob Try.prog.godebug = none := by kernel_rfl
set_option maxRecDepth 100000 in
theorem lifted (os : Os) (started : os.Started) (H : Type) (enc : TypeId × Value → H) :
    ReturnsInHanded {} Try.checked os 5 .any (Rows.graphLongSpec.pre6 enc Try.prog Try.f5 Rows.graphLongRow.domain false) (Rows.graphLongSpec.post enc Try.prog Try.f5 false true false false) := by
  refine returnsInHanded_of_change_sized (C := Try.checked) own started (by kernel_rfl) Try.func5
    (ChangeSpec.witness6 (enc := enc) (C := Try.checked) false ⟨#[], #[.int .u8 0, .int .u8 0], []⟩ 8 (by kernel_rfl) (by kernel_rfl) (by kernel_rfl) (by kernel_rfl)) ?_
  intro W base args ds gs before hval0 hW hcnd hsz0 _
  have hval : ∀ (j : Nat) t v, Try.f5.params[j]? = some t → args[j]? = some v → Value.okWide Try.prog W .any base t v := hval0
  have hW' := hW
  obtain ⟨p, q, hA0, hV, rfl, hfz, hnd⟩ := hW
  have hA : DataW.TrodAll enc Try.prog W 0 (fun _ => true) true Try.f5.params.toList args.toList ds p := hA0
  rw [Try.params5] at hA hval
  obtain ⟨v0, vs0, d0, ds0, p0, q0, hargs, rfl, rfl, h0, r0⟩ := trodAll_cons hA
  obtain ⟨v1, vs1, d1, ds1, p1, q1, rfl, rfl, rfl, h1, r1⟩ := trodAll_cons r0
  obtain ⟨rfl, rfl, rfl⟩ := trodAll_nil r1
  obtain rfl : args = #[v0, v1] := by cases args; simp_all
  obtain ⟨rfl, rfl⟩ := trodVars_none hV
  obtain ⟨a0, rfl, rfl, rfl, w0⟩ := open_int Try.underlying5 (hval 0 5 v0 rfl rfl) h0
  obtain ⟨a1, rfl, rfl, rfl, w1⟩ := open_int Try.underlying5 (hval 1 5 v1 rfl rfl) h1
  clear hA0 hval0 hsz0
  refine (_root_.Go.Proofs.Ytieoklpgnmbpjaa.Gr.long_law a0 a1 (has_u8 (has_int Try.underlying5 (hval 0 5 _ rfl rfl))).1 (has_u8 (has_int Try.underlying5 (hval 1 5 _ rfl rfl))).1 W).mono fun e W' ⟨he, bel⟩ => ?_
  subst he
  exact ⟨_, rfl, _, _, _, [], _, [], hW', trodAll_mk1 (shut_bool Try.underlying4 _), (trodAll_cons_mk (shut_int Try.underlying5 w0) (trodAll_cons_mk (shut_int Try.underlying5 w1) trodAll_mk0)), rfl, bel.frame _, fun h => by cases h⟩
theorem over : Rows.graphLongRow.holds Try.pinned (OpenSpec.ofChange Rows.graphLongSpec) :=
  OpenClaim.holds_of_wide 5 Try.f5 rfl rfl rfl rfl rfl rfl rfl ⟨rfl, rfl, rfl, rfl, rfl⟩ rfl rfl rfl rfl rfl (by kernel_rfl) Try.func5 (by kernel_rfl)
    (of_decide_eq_true (by kernel_rfl)) (by unfold Func.isWrapper; first | (rw [if_pos (by decide +kernel)]; kernel_rfl) | (rw [if_neg (by decide +kernel)]; exact ⟨rfl, rfl⟩))
    (fun os started H enc _ => lifted os started H enc)
theorem proved : Rows.GraphLongSaid := over
#print axioms proved
end Go.Proofs.Ytieoklpgnmbpjaa.graphLong
namespace Go.Proofs.Ytieoklpgnmbpjaa
/-- The row, under a short name, for the claim. -/
theorem graphLong_holds : Rows.GraphLongSaid := graphLong.proved
end Go.Proofs.Ytieoklpgnmbpjaa
