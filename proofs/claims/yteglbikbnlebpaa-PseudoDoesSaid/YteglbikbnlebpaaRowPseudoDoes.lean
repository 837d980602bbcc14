/- PseudoDoes: what is told sets the register to the number, or adds it, and changes no other one but the one on the way (P12.4). -/
import Derived.Test.YteglbikbnlebpaaRows
import Derived.Test.YteglbikbnlebpaaPd8
import Derived.WalkKit
import Derived.ProofKit
import Derived.OpenShut
import Derived.ShutString
import Derived.ChangeOld
import Derived.Below
import Derived.SizedLaws
import Derived.Lib.SmallJoins
import Derived.Carry
import Derived.Laws.IdiomArrays
namespace Go.Proofs.Yteglbikbnlebpaa.pseudoDoes
open Go.ChangeShapes Go.WideShapes Go.ChangeAt Go.RowKit
open Go.ChangeMaps (open_string shut_string)
set_option linter.unusedVariables false

section
open Go.Joins Go.Deep
variable {P : Program} {w : World}
theorem int_cell {r : Reach} {b0 : Nat} {u : TypeId} {v : Value} {k : IntKind} (hu : P.underlying u = some (.int k)) (h : Cell.okWide P w r b0 u v) : ∃ x, v = .int k x ∧ k.has x := by
  unfold Cell.okWide at h
  rw [hu] at h
  cases v <;> simp only [Cell.ok, hu] at h <;> first | (exact absurd h id) | skip
  rename_i k' x
  obtain ⟨rfl, h⟩ := h
  exact ⟨x, rfl, h⟩
theorem has_int {r : Reach} {b0 : Nat} {u : TypeId} {a : Int} {k : IntKind} (hu : P.underlying u = some (.int k)) (h : Value.okWide P w r b0 u (.int k a)) : k.has a := by
  unfold Value.okWide at h
  rw [hu] at h
  obtain ⟨x, hx, hh⟩ := int_cell hu h
  cases hx
  exact hh
theorem ints_of {k : IntKind} : ∀ (l : List Value), (∀ v ∈ l, ∃ x, v = .int k x ∧ k.has x) → ∃ xs : List Int, l = xs.map (Value.int k) ∧ ∀ x ∈ xs, k.has x
  | [], _ => ⟨[], rfl, fun _ h => by cases h⟩
  | v :: l, h => by
    obtain ⟨x, rfl, hx⟩ := h v (List.mem_cons_self)
    obtain ⟨xs, rfl, hxs⟩ := ints_of l (fun v hv => h v (List.mem_cons_of_mem _ hv))
    exact ⟨x :: xs, rfl, fun y hy => by
      rcases List.mem_cons.1 hy with rfl | hy
      · exact hx
      · exact hxs y hy⟩
theorem open_flat {r : Reach} {b0 n : Nat} {t u : TypeId} {v : Value} {k : IntKind} (hd : (match P.underlying t with | some (.struct _) | some (.array _ _) => true | _ => false) = true) (hu : P.underlying u = some (.int k)) (hC : P.cellsOf t = n) (hts : P.cellTypes P.depth t = some (List.replicate n u)) (hn : 0 < n)
    (h : Value.okWide P w r b0 t v) : ∃ xs : List Int, xs.length = n ∧ v = .agg (xs.map (Value.int k)).toArray ∧ ∀ x ∈ xs, k.has x := by
  have h' : ∃ cs, v = .agg cs ∧ cs.size = P.cellsOf t ∧ Row.okWide P w r b0 t cs := by
    unfold Value.okWide at h
    split at h
    · exact h
    · exact h
    · rename_i h1 h2
      exfalso
      revert hd
      split
      · rename_i fs hu'; exact absurd hu' (h1 fs)
      · rename_i m e hu'; exact absurd hu' (h2 m e)
      · simp
  obtain ⟨cs, rfl, hsz, ts, hts', _, hall⟩ := h'
  rw [hts] at hts'
  obtain rfl := Option.some.inj hts'
  obtain ⟨xs, hxs, hb⟩ := ints_of (k := k) cs.toList (fun v hv => by
    obtain ⟨i, hi⟩ := List.getElem?_of_mem hv
    rw [Array.getElem?_toList] at hi
    obtain ⟨u', hu', hc⟩ := hall i v hi
    have : u' = u := by
      rw [List.getElem?_replicate] at hu'
      split at hu'
      · exact (Option.some.inj hu').symm
      · cases hu'
    subst this
    exact int_cell hu hc)
  refine ⟨xs, ?_, ?_, hb⟩
  · have := congrArg List.length hxs
    simp at this
    omega
  · congr 1
    rw [← hxs]
end
theorem cells23 : Try.prog.cellsOf 23 = 3 := by kernel_rfl
theorem types23 : Try.prog.cellTypes Try.prog.depth 23 = some (List.replicate 3 5) := by kernel_rfl
theorem has_u8 {x : Int} (h : IntKind.u8.has x) : 0 ≤ x ∧ x < 256 := by
  have e1 : IntKind.u8.min = 0 := by decide
  have e2 : IntKind.u8.max = 255 := by decide
  unfold IntKind.has at h
  omega
theorem has_u32 {x : Int} (h : IntKind.u32.has x) : 0 ≤ x ∧ x < 4294967296 := by
  have e1 : IntKind.u32.min = 0 := by decide
  have e2 : IntKind.u32.max = 4294967295 := by decide
  unfold IntKind.has at h
  omega
theorem has_i32 {x : Int} (h : IntKind.i32.has x) : -2147483648 ≤ x ∧ x ≤ 2147483647 := by
  have e1 : IntKind.i32.min = -2147483648 := by decide
  have e2 : IntKind.i32.max = 2147483647 := by decide
  unfold IntKind.has at h
  omega
theorem open23 {r : Reach} {b0 : Nat} {w : World} {v : Value} (h : Value.okWide Try.prog w r b0 23 v) : ∃ x0 x1 x2 : Int, v = .agg #[.int .u8 x0, .int .u8 x1, .int .u8 x2] ∧ (0 ≤ x0 ∧ x0 < 256) ∧ (0 ≤ x1 ∧ x1 < 256) ∧ (0 ≤ x2 ∧ x2 < 256) := by
  obtain ⟨xs, hxl, rfl, hxb⟩ := open_flat (by kernel_rfl) Try.underlying5 cells23 types23 (by decide) h
  match xs, hxl, hxb with
  | [x0, x1, x2], _, hb => exact ⟨x0, x1, x2, rfl, has_u8 (hb x0 (by simp)), has_u8 (hb x1 (by simp)), has_u8 (hb x2 (by simp))⟩
theorem laidOut : laidOutB Try.prog = true := by kernel_rfl
theorem own : ownKnob Try.prog.godebug = none := by kernel_rfl
set_option maxRecDepth 100000 in
theorem lifted (os : Os) (started : os.Started) (H : Type) (enc : TypeId × Value → H) :
    ReturnsInHanded {} Try.checked os 3 .any (Rows.pseudoDoesSpec.pre6 enc Try.prog Try.f3 Rows.pseudoDoesRow.domain false) (Rows.pseudoDoesSpec.post enc Try.prog Try.f3 false true false false) := by
  refine returnsInHanded_of_change_sized (C := Try.checked) own started (by kernel_rfl) Try.func3
    (ChangeSpec.witness6 (enc := enc) (C := Try.checked) false ⟨#[], #[.int .i32 0, .int .u32 0, .agg #[.int .u8 0, .int .u8 0, .int .u8 0]], []⟩ 8 (by kernel_rfl) (by kernel_rfl) (by kernel_rfl) (by kernel_rfl)) ?_
  intro W base args ds gs before hval0 hW hcnd hsz0 _
  have hval : ∀ (j : Nat) t v, Try.f3.params[j]? = some t → args[j]? = some v → Value.okWide Try.prog W .any base t v := hval0
  have hW' := hW
  obtain ⟨p, q, hA0, hV, rfl, hfz, hnd⟩ := hW
  have hA : DataW.TrodAll enc Try.prog W 0 (fun _ => true) true Try.f3.params.toList args.toList ds p := hA0
  rw [Try.params3] at hA hval
  obtain ⟨v0, vs0, d0, ds0, p0, q0, hargs, rfl, rfl, h0, r0⟩ := trodAll_cons hA
  obtain ⟨v1, vs1, d1, ds1, p1, q1, rfl, rfl, rfl, h1, r1⟩ := trodAll_cons r0
  obtain ⟨v2, vs2, d2, ds2, p2, q2, rfl, rfl, rfl, h2, r2⟩ := trodAll_cons r1
  obtain ⟨rfl, rfl, rfl⟩ := trodAll_nil r2
  obtain rfl : args = #[v0, v1, v2] := by cases args; simp_all
  obtain ⟨rfl, rfl⟩ := trodVars_none hV
  obtain ⟨a0, rfl, rfl, rfl, w0⟩ := open_int Try.underlying21 (hval 0 21 v0 rfl rfl) h0
  obtain ⟨a1, rfl, rfl, rfl, w1⟩ := open_int Try.underlying22 (hval 1 22 v1 rfl rfl) h1
  have h2k := h2
  have hlt2 : ∀ x ∈ p2, x.block < W.heap.size := fun x hx => by simpa using hW'.lt x (by simp [hx])
  obtain ⟨x0, x1, x2, rfl, b0, b1, b2⟩ := open23 (hval 2 23 v2 rfl rfl)
  clear hA0 hval0 hsz0
  refine (_root_.Go.Proofs.Yteglbikbnlebpaa.Pd.law_is a0 a1 x0 x1 x2 W (has_i32 (has_int Try.underlying21 (hval 0 21 _ rfl rfl))) (has_u32 (has_int Try.underlying22 (hval 1 22 _ rfl rfl))) b0 b1 b2).mono fun e W' ⟨he, bel⟩ => ?_
  subst he
  exact ⟨_, rfl, _, _, _, [], _, [], hW', trodAll_mk1 (shut_bool Try.underlying4 _), (trodAll_cons_mk (shut_int Try.underlying21 w0) (trodAll_cons_mk (shut_int Try.underlying22 w1) (trodAll_cons_mk (Below.trod laidOut (by kernel_rfl) (of_decide_eq_true (by kernel_rfl)) h2k bel hlt2) trodAll_mk0))), rfl, bel.frame _, fun h => by cases h⟩
theorem over : Rows.pseudoDoesRow.holds Try.pinned (OpenSpec.ofChange Rows.pseudoDoesSpec) :=
  OpenClaim.holds_of_wide 3 Try.f3 rfl rfl rfl rfl rfl rfl rfl ⟨rfl, rfl, rfl, rfl, rfl⟩ rfl rfl rfl rfl rfl (by kernel_rfl) Try.func3 (by kernel_rfl)
    (of_decide_eq_true (by kernel_rfl)) (by unfold Func.isWrapper; first | (rw [if_pos (by decide +kernel)]; kernel_rfl) | (rw [if_neg (by decide +kernel)]; exact ⟨rfl, rfl⟩))
    (fun os started H enc _ => lifted os started H enc)
theorem proved : Rows.PseudoDoesSaid := over
#print axioms proved
end Go.Proofs.Yteglbikbnlebpaa.pseudoDoes
namespace Go.Proofs.Yteglbikbnlebpaa
/-- The row, under a short name, for the claim. -/
theorem pseudoDoes_holds : Rows.PseudoDoesSaid := pseudoDoes.proved
end Go.Proofs.Yteglbikbnlebpaa
