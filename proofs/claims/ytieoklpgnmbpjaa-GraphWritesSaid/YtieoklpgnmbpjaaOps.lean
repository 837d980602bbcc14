/- Operations on whole numbers and Bools, one lemma each. -/
import Derived.Test.YtieoklpgnmbpjaaDr
import Derived.Test.YtieoklpgnmbpjaaMem
import Derived.WalkKit
import Derived.IntWalk
namespace Go.Proofs.Ytieoklpgnmbpjaa.Dr
open Go Go.RowKit
set_option linter.unusedVariables false
set_option linter.unusedSimpArgs false
variable {P : Program} {W : World} {t : TypeId} {x y : Operand} {k : IntKind} {m n r : Int}
theorem cond_yes {c want : Bool} {v : Value} (h : c = want) : (bif c == want then v else undef) = v := by subst h; cases c <;> rfl
theorem cond_no {c want : Bool} {v : Value} (h : c ≠ want) : undef = (bif c == want then v else undef) := by cases c <;> cases want <;> first | rfl | exact absurd rfl h
theorem pick_or {c b : Bool} : (if c = true then Value.bool true else (bif c == false then Value.bool b else undef)) = .bool (c || b) := by cases c <;> rfl
theorem pick_and {c b : Bool} : (if c = true then (bif c == true then Value.bool b else undef) else Value.bool false) = .bool (c && b) := by cases c <;> rfl
theorem b_lss : (do eqGuard .lss t x y (.int k m) (.int k n); binOp .lss t (.int k m) (.int k n) : Sem Value).run P W = .ok (.bool (decide (m < n))) W := by simp [eqGuard, binOp, go_sem]
theorem b_gtr : (do eqGuard .gtr t x y (.int k m) (.int k n); binOp .gtr t (.int k m) (.int k n) : Sem Value).run P W = .ok (.bool (decide (n < m))) W := by simp [eqGuard, binOp, go_sem]
theorem b_leq : (do eqGuard .leq t x y (.int k m) (.int k n); binOp .leq t (.int k m) (.int k n) : Sem Value).run P W = .ok (.bool (decide (m ≤ n))) W := by simp [eqGuard, binOp, go_sem]
theorem b_geq : (do eqGuard .geq t x y (.int k m) (.int k n); binOp .geq t (.int k m) (.int k n) : Sem Value).run P W = .ok (.bool (decide (n ≤ m))) W := by simp [eqGuard, binOp, go_sem]
theorem b_eql : (do eqGuard .eql t x y (.int k m) (.int k n); binOp .eql t (.int k m) (.int k n) : Sem Value).run P W = .ok (.bool (m == n)) W := by
  simp [eqGuard, binOp, go_sem]
theorem b_neq : (do eqGuard .neq t x y (.int k m) (.int k n); binOp .neq t (.int k m) (.int k n) : Sem Value).run P W = .ok (.bool (m != n)) W := by
  simp [eqGuard, binOp, go_sem]
theorem b_add (h : k.wrap (m + n) = r) : (do eqGuard .add t x y (.int k m) (.int k n); binOp .add t (.int k m) (.int k n) : Sem Value).run P W = .ok (.int k r) W := by
  subst h
  simp [eqGuard, binOp, go_sem]
theorem b_sub (h : k.wrap (m - n) = r) : (do eqGuard .sub t x y (.int k m) (.int k n); binOp .sub t (.int k m) (.int k n) : Sem Value).run P W = .ok (.int k r) W := by
  subst h
  simp [eqGuard, binOp, go_sem]
theorem b_mul (h : k.wrap (m * n) = r) : (do eqGuard .mul t x y (.int k m) (.int k n); binOp .mul t (.int k m) (.int k n) : Sem Value).run P W = .ok (.int k r) W := by
  subst h
  simp [eqGuard, binOp, go_sem]
theorem b_quo (h0 : n ≠ 0) (h : k.wrap (m.tdiv n) = r) : (do eqGuard .quo t x y (.int k m) (.int k n); binOp .quo t (.int k m) (.int k n) : Sem Value).run P W = .ok (.int k r) W := by
  subst h
  simp [eqGuard, binOp, go_sem, h0]
theorem b_rem (h0 : n ≠ 0) (h : m.tmod n = r) : (do eqGuard .rem t x y (.int k m) (.int k n); binOp .rem t (.int k m) (.int k n) : Sem Value).run P W = .ok (.int k r) W := by
  subst h
  simp [eqGuard, binOp, go_sem, h0]
theorem u_not {b : Bool} : (Op.unary .not (.bool b)).run P W = .ok (.bool (!b)) W := by simp [go_sem]
/-- A block of the call's own that holds o. -/
def newSpec (o : Obj) (g0 : Nat) : DSpec (fun W W' => Below W.heap.size W W') := ⟨fun v W => ∃ g, v = .pointer (some ⟨g, 0, none⟩) ∧ W.heap[g]? = some o ∧ g0 ≤ g, fun _ _ _ ⟨g, h1, h2, h3⟩ hb => ⟨g, h1, blk_below h2 hb, h3⟩⟩
theorem ld_cell {W : World} {a : Addr} {v : Value} (t : TypeId) (hu : (match P.underlying t with | some (.struct _) | some (.array _ _) => false | some _ => true | none => false) = true) (h : W.cell? a = some v) : (loadVar t a).run P W = .ok v W := by
  cases e : P.underlying t with
  | none => rw [e] at hu; cases hu
  | some d =>
    rw [e] at hu
    have hagg : (isAgg t).run P W = .ok false W := by
      unfold isAgg
      rw [Sem.run_bind, run_underlying e W]
      cases d <;> simp_all
    simp [loadVar, Sem.run_bind, hagg, go_sem, h]
end Go.Proofs.Ytieoklpgnmbpjaa.Dr
