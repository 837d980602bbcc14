/- GraphCut: no network's bytes, cut off anywhere, or with bytes behind them, are one (P23.3). -/
import Derived.Test.YtieoklpgnmbpjaaRows
import Derived.Test.YtieoklpgnmbpjaaE28
import Derived.Test.YtieoklpgnmbpjaaE29
import Derived.WalkKit
import Derived.ProofKit
import Derived.OpenShut
import Derived.ShutString
import Derived.ChangeOld
import Derived.Below
import Derived.SizedLaws
import Derived.Lib.SmallJoins
import Derived.Carry
namespace Go.Proofs.Ytieoklpgnmbpjaa.graphCut
open Go.ChangeShapes Go.WideShapes Go.ChangeAt Go.RowKit
open Go.ChangeMaps (open_string shut_string)
set_option linter.unusedVariables false
theorem laidOut : laidOutB Try.prog = true := by kernel_rfl
theorem own : ownKnob Try.prog.godebug = none := by kernel_rfl
set_option maxRecDepth 100000 in
theorem lifted (os : Os) (started : os.Started) (H : Type) (enc : TypeId × Value → H) :
    ReturnsInHanded {} Try.checked os 4 .any (Rows.graphCutSpec.pre6 enc Try.prog Try.f4 Rows.graphCutRow.domain false) (Rows.graphCutSpec.post enc Try.prog Try.f4 false true false false) := by
  refine returnsInHanded_of_change_sized (C := Try.checked) own started (by kernel_rfl) Try.func4
    (ChangeSpec.witness6 (enc := enc) (C := Try.checked) false ⟨#[], #[.agg #[.int .i64 0, .int .i64 0, .int .i64 0, .slice none 0 0, .slice none 0 0, .int .i64 0], .int .u16 0, .slice none 0 0], []⟩ 8 (by kernel_rfl) (by kernel_rfl) (by kernel_rfl) (by kernel_rfl)) ?_
  intro W base args ds gs before hval0 hW hcnd hsz0 _
  have hval : ∀ (j : Nat) t v, Try.f4.params[j]? = some t → args[j]? = some v → Value.okWide Try.prog W .any base t v := hval0
  have hW' := hW
  obtain ⟨p, q, hA0, hV, rfl, hfz, hnd⟩ := hW
  have hA : DataW.TrodAll enc Try.prog W 0 (fun _ => true) true Try.f4.params.toList args.toList ds p := hA0
  rw [Try.params4] at hA hval
  obtain ⟨v0, vs0, d0, ds0, p0, q0, hargs, rfl, rfl, h0, r0⟩ := trodAll_cons hA
  obtain ⟨v1, vs1, d1, ds1, p1, q1, rfl, rfl, rfl, h1, r1⟩ := trodAll_cons r0
  obtain ⟨v2, vs2, d2, ds2, p2, q2, rfl, rfl, rfl, h2, r2⟩ := trodAll_cons r1
  obtain ⟨rfl, rfl, rfl⟩ := trodAll_nil r2
  obtain rfl : args = #[v0, v1, v2] := by cases args; simp_all
  obtain ⟨rfl, rfl⟩ := trodVars_none hV
  obtain ⟨fs, rfl, -⟩ := okWide_struct Try.underlying26 (hval 0 26 v0 rfl rfl)
  have k0 := h0
  have lt0 : ∀ x ∈ p0, x.block < W.heap.size := by obtain ⟨m, hm⟩ := k0; exact DataW.trod_lt m _ _ _ hm
  obtain ⟨f0, g0⟩ := h0
  obtain ⟨a, b, c, o, AU, AV, cU, cV, ks, ns, hcs, kU, kV, CU, CV, wK, wN⟩ := _root_.Go.Proofs.Ytieoklpgnmbpjaa.Gr.open26 (cs := fs.toList) (by simpa [Value.cells] using g0)
  obtain rfl : fs = #[.int .i64 a, .int .i64 b, .int .i64 c, .slice AU ks.length cU, .slice AV ns.length cV, .int .i64 o] := by rw [← Array.toArray_toList (xs := fs), hcs]
  obtain ⟨a1, rfl, rfl, rfl, w1⟩ := open_int Try.underlying37 (hval 1 37 v1 rfl rfl) h1
  obtain ⟨a2, len2, cap2, rfl⟩ := okWide_slice Try.underlying28 (hval 2 28 v2 rfl rfl)
  have k2 := h2
  have lt2 : ∀ x ∈ p2, x.block < W.heap.size := by obtain ⟨m, hm⟩ := k2; exact DataW.trod_lt m _ _ _ hm
  obtain ⟨f2, g2⟩ := h2
  obtain ⟨AM, more, cM, hM, kM, CM, wM⟩ := _root_.Go.Proofs.Ytieoklpgnmbpjaa.Gr.open_ints Try.underlying28 Try.underlying5 _root_.Go.Proofs.Ytieoklpgnmbpjaa.Gr.co5 (by simpa [Value.cells] using g2)
  obtain ⟨rfl, rfl, rfl⟩ : a2 = AM ∧ len2 = more.length ∧ cap2 = cM := by simpa using hM
  have b1 : 0 ≤ a1 ∧ a1 < 65536 := by
    have e1 : IntKind.u16.min = 0 := by decide
    have e2 : IntKind.u16.max = 65535 := by decide
    simp only [Lit.wf, Bool.and_eq_true, decide_eq_true_eq] at w1
    omega
  obtain ⟨n1, rfl⟩ : ∃ n1 : Nat, a1 = (n1 : Int) := ⟨a1.toNat, by omega⟩
  clear hA0 hval0 hsz0
  refine (_root_.Go.Proofs.Ytieoklpgnmbpjaa.Gr.cut_law a b c o AU AV cU cV ks ns n1 a2 more cap2 W kU kV CU CV (fun x hx => (wK x hx).1) (fun x hx => (wK x hx).2) wN CM (fun x hx => _root_.Go.Proofs.Ytieoklpgnmbpjaa.Gr.wfu8 (wM x hx)) kM (by omega)).mono fun e W' ⟨he, bel⟩ => ?_
  subst he
  exact ⟨_, rfl, _, _, _, [], _, [], hW', trodAll_mk1 (shut_bool Try.underlying4 _), (trodAll_cons_mk (Below.trod laidOut (by kernel_rfl) (of_decide_eq_true (by kernel_rfl)) k0 bel lt0) (trodAll_cons_mk (shut_int Try.underlying37 w1) (trodAll_cons_mk (Below.trod laidOut (by kernel_rfl) (of_decide_eq_true (by kernel_rfl)) k2 bel lt2) trodAll_mk0))), rfl, bel.frame _, fun h => by cases h⟩
theorem over : Rows.graphCutRow.holds Try.pinned (OpenSpec.ofChange Rows.graphCutSpec) :=
  OpenClaim.holds_of_wide 4 Try.f4 rfl rfl rfl rfl rfl rfl rfl ⟨rfl, rfl, rfl, rfl, rfl⟩ rfl rfl rfl rfl rfl (by kernel_rfl) Try.func4 (by kernel_rfl)
    (of_decide_eq_true (by kernel_rfl)) (by unfold Func.isWrapper; first | (rw [if_pos (by decide +kernel)]; kernel_rfl) | (rw [if_neg (by decide +kernel)]; exact ⟨rfl, rfl⟩))
    (fun os started H enc _ => lifted os started H enc)
theorem proved : Rows.GraphCutSaid := over
#print axioms proved
end Go.Proofs.Ytieoklpgnmbpjaa.graphCut
namespace Go.Proofs.Ytieoklpgnmbpjaa
/-- The row, under a short name, for the claim. -/
theorem graphCut_holds : Rows.GraphCutSaid := graphCut.proved
end Go.Proofs.Ytieoklpgnmbpjaa
