/- GraphWrites: any network's bytes, or why it has none, and that it comes back from them (P23.1, P23.2, P23.4). -/
import Derived.Test.YtieoklpgnmbpjaaRows
import Derived.Test.YtieoklpgnmbpjaaE39
import Derived.Test.YtieoklpgnmbpjaaE29
import Derived.WalkKit
import Derived.ProofKit
import Derived.OpenShut
import Derived.ShutString
import Derived.ChangeOld
import Derived.Below
import Derived.SizedLaws
import Derived.Lib.SmallJoins
import Derived.Carry
namespace Go.Proofs.Ytieoklpgnmbpjaa.graphWrites
open Go.ChangeShapes Go.WideShapes Go.ChangeAt Go.RowKit
open Go.ChangeMaps (open_string shut_string)
set_option linter.unusedVariables false
theorem laidOut : laidOutB Try.prog = true := by kernel_rfl
theorem own : ownKnob Try.prog.godebug = none := by kernel_rfl
set_option maxRecDepth 100000 in
theorem lifted (os : Os) (started : os.Started) (H : Type) (enc : TypeId × Value → H) :
    ReturnsInHanded {} Try.checked os 3 .any (Rows.graphWritesSpec.pre6 enc Try.prog Try.f3 Rows.graphWritesRow.domain false) (Rows.graphWritesSpec.post enc Try.prog Try.f3 false true false false) := by
  refine returnsInHanded_of_change_sized (C := Try.checked) own started (by kernel_rfl) Try.func3
    (ChangeSpec.witness6 (enc := enc) (C := Try.checked) false ⟨#[], #[.agg #[.int .i64 0, .int .i64 0, .int .i64 0, .slice none 0 0, .slice none 0 0, .int .i64 0]], []⟩ 8 (by kernel_rfl) (by kernel_rfl) (by kernel_rfl) (by kernel_rfl)) ?_
  intro W base args ds gs before hval0 hW hcnd hsz0 _
  have hval : ∀ (j : Nat) t v, Try.f3.params[j]? = some t → args[j]? = some v → Value.okWide Try.prog W .any base t v := hval0
  have hW' := hW
  obtain ⟨p, q, hA0, hV, rfl, hfz, hnd⟩ := hW
  have hA : DataW.TrodAll enc Try.prog W 0 (fun _ => true) true Try.f3.params.toList args.toList ds p := hA0
  rw [Try.params3] at hA hval
  obtain ⟨v0, vs0, d0, ds0, p0, q0, hargs, rfl, rfl, h0, r0⟩ := trodAll_cons hA
  obtain ⟨rfl, rfl, rfl⟩ := trodAll_nil r0
  obtain rfl : args = #[v0] := by cases args; simp_all
  obtain ⟨rfl, rfl⟩ := trodVars_none hV
  obtain ⟨fs, rfl, -⟩ := okWide_struct Try.underlying26 (hval 0 26 v0 rfl rfl)
  have k0 := h0
  have lt0 : ∀ x ∈ p0, x.block < W.heap.size := by obtain ⟨m, hm⟩ := k0; exact DataW.trod_lt m _ _ _ hm
  obtain ⟨f0, g0⟩ := h0
  obtain ⟨a, b, c, o, AU, AV, cU, cV, ks, ns, hcs, kU, kV, CU, CV, wK, wN⟩ := _root_.Go.Proofs.Ytieoklpgnmbpjaa.Gr.open26 (cs := fs.toList) (by simpa [Value.cells] using g0)
  obtain rfl : fs = #[.int .i64 a, .int .i64 b, .int .i64 c, .slice AU ks.length cU, .slice AV ns.length cV, .int .i64 o] := by rw [← Array.toArray_toList (xs := fs), hcs]
  clear hA0 hval0 hsz0
  refine (_root_.Go.Proofs.Ytieoklpgnmbpjaa.Gr.writes_law a b c o AU AV cU cV ks ns W kU kV CU CV (fun x hx => (wK x hx).1) (fun x hx => (wK x hx).2) wN).mono fun e W' ⟨he, bel⟩ => ?_
  subst he
  exact ⟨_, rfl, _, _, _, [], _, [], hW', trodAll_mk1 (shut_bool Try.underlying4 _), (trodAll_cons_mk (Below.trod laidOut (by kernel_rfl) (of_decide_eq_true (by kernel_rfl)) k0 bel lt0) trodAll_mk0), rfl, bel.frame _, fun h => by cases h⟩
theorem over : Rows.graphWritesRow.holds Try.pinned (OpenSpec.ofChange Rows.graphWritesSpec) :=
  OpenClaim.holds_of_wide 3 Try.f3 rfl rfl rfl rfl rfl rfl rfl ⟨rfl, rfl, rfl, rfl, rfl⟩ rfl rfl rfl rfl rfl (by kernel_rfl) Try.func3 (by kernel_rfl)
    (of_decide_eq_true (by kernel_rfl)) (by unfold Func.isWrapper; first | (rw [if_pos (by decide +kernel)]; kernel_rfl) | (rw [if_neg (by decide +kernel)]; exact ⟨rfl, rfl⟩))
    (fun os started H enc _ => lifted os started H enc)
theorem proved : Rows.GraphWritesSaid := over
#print axioms proved
end Go.Proofs.Ytieoklpgnmbpjaa.graphWrites
namespace Go.Proofs.Ytieoklpgnmbpjaa
/-- The row, under a short name, for the claim. -/
theorem graphWrites_holds : Rows.GraphWritesSaid := graphWrites.proved
end Go.Proofs.Ytieoklpgnmbpjaa
