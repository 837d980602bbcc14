/- Arrays of thirty-two words; a machine's registers. -/
import Derived.Test.YteglbikbnlebpaaOps
import Derived.Test.YteglbikbnlebpaaMem
import Derived.Test.YteglbikbnlebpaaPsBase
import Derived.WalkKit
namespace Go.Proofs.Yteglbikbnlebpaa.Pd
open Go.RowKit Dr PPs Go.Proofs.YteglbikbnlebpaaW.PrintWords
set_option linter.unusedVariables false
set_option linter.unusedSimpArgs false
set_option maxRecDepth 100000

/-- Thirty-two words. -/
def arr (ρ : Nat → Int) : Array Value := ((List.range 32).map fun i => Value.int .u32 (ρ i)).toArray
def marr (ρ : Nat → Int) : Array Value := #[.pointer none, .int .u32 0] ++ arr ρ
theorem arr_size (ρ : Nat → Int) : (arr ρ).size = 32 := by simp [arr]
theorem marr_size (ρ : Nat → Int) : (marr ρ).size = 34 := by simp [marr, arr_size]
theorem arr_get (ρ : Nat → Int) {i : Nat} (h : i < 32) : (arr ρ)[i]? = some (.int .u32 (ρ i)) := by simp [arr, h]
theorem marr_get (ρ : Nat → Int) {i : Nat} (h : i < 32) : (marr ρ)[2 + i]? = some (.int .u32 (ρ i)) := by
  unfold marr
  rw [Array.getElem?_append_right (by simp)]
  simpa using arr_get ρ h
def upd1 (ρ : Nat → Int) (i : Nat) (v : Int) : Nat → Int := fun j => if j = i then v else ρ j
theorem arr_put (ρ : Nat → Int) {i : Nat} (h : i < 32) (v : Int) : (arr ρ).setIfInBounds i (.int .u32 v) = arr (upd1 ρ i v) := by
  apply Array.ext_getElem?
  intro j
  rw [Array.getElem?_setIfInBounds]
  by_cases hj : j < 32
  · by_cases hij : i = j
    · subst hij
      rw [if_pos rfl, if_pos (by rw [arr_size]; exact h), arr_get _ h]
      unfold upd1
      rw [if_pos rfl]
    · rw [if_neg hij, arr_get _ hj, arr_get _ hj]
      unfold upd1
      rw [if_neg (Ne.symm hij)]
  · rw [if_neg (by omega), Array.getElem?_eq_none (by rw [arr_size]; omega), Array.getElem?_eq_none (by rw [arr_size]; omega)]
theorem marr_put (ρ : Nat → Int) {i : Nat} (h : i < 32) (v : Int) : (marr ρ).setIfInBounds (2 + i) (.int .u32 v) = marr (upd1 ρ i v) := by
  unfold marr
  rw [← arr_put ρ h v]
  apply Array.ext_getElem?
  intro j
  simp only [Array.getElem?_setIfInBounds, Array.getElem?_append, Array.size_append, arr_size, List.size_toArray, List.length_cons, List.length_nil]
  by_cases hj : j < 0 + 1 + 1
  · rw [if_pos hj, if_pos hj, if_neg (by omega)]
  · rw [if_neg hj, if_neg hj]
    by_cases hij : 2 + i = j
    · subst hij; rw [if_pos rfl, if_pos (by omega), if_pos (by omega), if_pos (by omega)]
    · rw [if_neg hij, if_neg (by omega)]
theorem bld24 (W : World) : (Instr.build 24 #[]).run Try.prog W = .ok (.agg (arr fun _ => 0)) W := by kernel_rfl
theorem bld36 (ρ : Nat → Int) (W : World) : (Instr.build 36 #[(2, .agg (arr ρ))]).run Try.prog W = .ok (.agg (marr ρ)) W := by kernel_rfl
theorem box36 (ρ : Nat → Int) (W : World) : (Instr.box 36 (.agg (marr ρ))).run Try.prog W = .ok (.pointer (some ⟨W.heap.size, 0, none⟩)) (W.alloc (.cells (marr ρ) 36)) := by kernel_rfl
theorem box24 (ρ : Nat → Int) (W : World) : (Instr.box 24 (.agg (arr ρ))).run Try.prog W = .ok (.pointer (some ⟨W.heap.size, 0, none⟩)) (W.alloc (.cells (arr ρ) 24)) := by kernel_rfl
theorem new24 (W : World) : (Instr.alloc 24 true (.tuple #[])).run Try.prog W = .ok (.pointer (some ⟨W.heap.size, 0, none⟩)) (W.alloc (.cells (arr fun _ => 0) 24)) := by kernel_rfl
abbrev ins0 : Obj := .cells #[.int .i64 0, .int .i64 0, .int .i64 0, .int .i64 0, .int .i32 0] 38 (0, 0)
theorem new38 (W : World) : (Instr.alloc 38 true (.tuple #[])).run Try.prog W = .ok (.pointer (some ⟨W.heap.size, 0, none⟩)) (W.alloc ins0) := by kernel_rfl
theorem cv (n : Int) (W : World) : (convert 21 22 (.int .i32 n)).run Try.prog W = .ok (.int .u32 (IntKind.u32.wrap n)) W := by kernel_rfl
theorem ixa (g o i : Nat) (h : i < 32) (W : World) : (Instr.indexAt 24 (.pointer (some ⟨g, o, none⟩)) (.int .i64 (i : Int))).run Try.prog W = .ok (.pointer (some ⟨g, o + i, none⟩)) W := by
  have e1 : Try.prog.arrayLen 24 = 32 := by kernel_rfl
  have e : (sizeOf (Try.prog.elem 24)).run Try.prog W = .ok 1 W := by kernel_rfl
  rw [run_indexAt_array W 24 ⟨g, o, none⟩ .i64 i (by kernel_rfl), if_pos ⟨by omega, by rw [e1]; omega⟩, e]
  simp only [Result.andThen_ok, Addr.add_mid, Int.toNat_natCast, Nat.mul_one]
theorem ix25 {ad : Addr} {n c i : Nat} (h : i < n) (W : World) : (Instr.indexAt 25 (.slice (some ad) n c) (.int .i64 (i : Int))).run Try.prog W = .ok (.pointer (some (ad.add (i * 5)))) W := by
  have e : (sizeOf (Try.prog.elem 25)).run Try.prog W = .ok 5 W := by kernel_rfl
  rw [run_indexAt_slice W 25 ad n c .i64 i (by kernel_rfl), if_pos ⟨by omega, by omega⟩, e]
  simp only [Result.andThen_ok, Int.toNat_natCast]
theorem b_len {a : Option Addr} {n c : Nat} (cs : Array Bool) (W : World) : (builtin .len #[25] 3 cs #[.slice a n c]).run Try.prog W = .ok (.value (.int .i64 (n : Int))) W := by kernel_rfl
/-- An instruction of a row that is read. -/
theorem ld_ins {W : World} {A : Option Addr} {l : List S38} (h : Kd.C k38 W A l.length l) {i : Nat} {x : S38} (hi : l[i]? = some x) :
    ∃ ad, A = some ad ∧ (loadVar 38 (ad.add (i * 5))).run Try.prog W = .ok (.agg #[.int .i64 x.f0, .int .i64 x.f1, .int .i64 x.f2, .int .i64 x.f3, .int .i32 x.f4]) W := by
  have hlt : i < l.length := (List.getElem?_eq_some_iff.1 hi).1
  obtain ⟨ad, c, e, _, hK, hc⟩ := Kd.C_get h z38 (i : Int) (by omega) (by omega)
  rw [Int.toNat_natCast] at hK hc
  have hx : l.getD i z38 = x := by simp [List.getD, hi]
  rw [hx] at hK
  obtain rfl := k38_open hK
  refine ⟨ad, e, ?_⟩
  have hl : (loadCells (ad.add (i * 5)) 5).run Try.prog W = .ok #[.int .i64 x.f0, .int .i64 x.f1, .int .i64 x.f2, .int .i64 x.f3, .int .i32 x.f4] W :=
    run_loadCells_list W (ad.add (i * 5)) _ (fun j v hv => by rw [Addr.add_add]; exact hc j v hv)
  have hagg : (isAgg 38).run Try.prog W = .ok true W := by kernel_rfl
  have hs : (sizeOf 38).run Try.prog W = .ok 5 W := by kernel_rfl
  simp [loadVar, Sem.run_bind, hagg, hs, hl]
/-- One instruction's doing. -/
def stepR (ρ : Nat → Int) (x : S38) : Nat → Int :=
  upd1 (if x.f0 = 42 then upd1 ρ x.f1.toNat (IntKind.u32.wrap x.f4) else if x.f0 = 19 then upd1 ρ x.f1.toNat (IntKind.u32.wrap (ρ x.f2.toNat + IntKind.u32.wrap x.f4)) else upd1 ρ x.f1.toNat (IntKind.u32.wrap (ρ x.f2.toNat + ρ x.f3.toNat))) 0 0
def runs (ρ : Nat → Int) (l : List S38) : Nat → Int := l.foldl stepR ρ
theorem runs_take {ρ : Nat → Int} {l : List S38} {i : Nat} {x : S38} (h : l[i]? = some x) : runs ρ (l.take (i + 1)) = stepR (runs ρ (l.take i)) x := by
  unfold runs
  rw [List.take_add_one, h]
  simp
/-- An instruction of these three, with registers that are there. -/
def Fine (x : S38) : Prop := (x.f0 = 42 ∨ x.f0 = 19 ∨ x.f0 = 1) ∧ (0 ≤ x.f1 ∧ x.f1 < 32) ∧ (0 ≤ x.f2 ∧ x.f2 < 32) ∧ (0 ≤ x.f3 ∧ x.f3 < 32)
end Go.Proofs.Yteglbikbnlebpaa.Pd
