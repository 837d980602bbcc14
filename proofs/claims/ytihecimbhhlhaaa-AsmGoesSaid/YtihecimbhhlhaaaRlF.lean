/- A slice of repeated items that came in. -/
import Derived.Test.YtihecimbhhlhaaaRlD
import Derived.Deep.Slices
import Derived.ChangeArms
import Derived.ChangeSame
namespace Go.Proofs.Ytihecimbhhlhaaa.Rl
open Go.RowKit Dr PRs
open Go.Proofs.YtihecimbhhlhaaaW.PrintWords (Kd Kd.C Kd.R Kd.C_below Kd.C_get Kd.R_below Kd.R_reads Kd.R_reads' Kd.R_types Kd.R_step Kd.R_alloc Kd.R_drew Kd.R_lower add_field)
set_option linter.unusedVariables false
set_option linter.unusedSimpArgs false
set_option maxRecDepth 100000
section
open Go.ChangeShapes Go.WideShapes Go.Deep
variable {H : Type} {enc : TypeId × Value → H} {w : World} {base : Nat} {spare : Nat → Bool} {held : Bool}
theorem co3 : Try.prog.cellsOf 3 = 1 := by kernel_rfl
theorem co21 : Try.prog.cellsOf 21 = 1 := by kernel_rfl
theorem co32 : Try.prog.cellsOf 32 = 5 := by kernel_rfl
theorem co34 : Try.prog.cellsOf 34 = 7 := by kernel_rfl
theorem co48 : Try.prog.cellsOf 48 = 8 := by kernel_rfl
theorem fld {n : Nat} {t : TypeId} {k : IntKind} {l : List Value} {xs : List (DataW H × List MemPlace)} {i : Nat} (hu : Try.prog.underlying t = some (.int k)) (hi : i < xs.length) (h : DataW.trod enc Try.prog w base spare held n t l = xs[i]?) : ∃ v, l = [.int k v] ∧ (Lit.int k v).wf = true := by
 rw [List.getElem?_eq_getElem hi] at h
 obtain ⟨v, h1, -, h2⟩ := DataW.trod_int hu h
 exact ⟨v, h1, h2⟩
theorem in64 {n : Int} (h : (Lit.int .i64 n).wf = true) : In64 n := by
 simp only [Lit.wf, Bool.and_eq_true, decide_eq_true_eq] at h
 have e1 : IntKind.i64.min = -9223372036854775808 := by decide
 have e2 : IntKind.i64.max = 9223372036854775807 := by decide
 rw [e1, e2] at h
 exact h
theorem in32 {n : Int} (h : (Lit.int .i32 n).wf = true) : In32 n := by
 simp only [Lit.wf, Bool.and_eq_true, decide_eq_true_eq] at h
 have e1 : IntKind.i32.min = -2147483648 := by decide
 have e2 : IntKind.i32.max = 2147483647 := by decide
 rw [e1, e2] at h
 exact h
theorem open32 {n : Nat} {cs : List Value} {x : DataW H × List MemPlace} (h : DataW.trod enc Try.prog w base spare held n 32 cs = some x) : ∃ z : S32, cs = [.int .i64 z.f0, .int .i64 z.f1, .int .i64 z.f2, .int .i64 z.f3, .int .i32 z.f4] ∧ In32 z.f4 := by
 obtain ⟨xs, n', -, -, hl, hlen, hf⟩ := DataW.trod_struct Try.underlying32 h
 rw [co32] at hl
 have hlen5 : xs.length = 5 := hlen
 match cs, hl with
 | [a, b, c, d, e], _ =>
  have g0 := hf 0 _ rfl
  have g1 := hf 1 _ rfl
  have g2 := hf 2 _ rfl
  have g3 := hf 3 _ rfl
  have g4 := hf 4 _ rfl
  simp only [List.getElem_toArray, List.getElem_cons_zero, List.getElem_cons_succ, co3, co21] at g0 g1 g2 g3 g4
  obtain ⟨v0, e0, -⟩ := fld Try.underlying3 (by omega) g0
  obtain ⟨v1, e1, -⟩ := fld Try.underlying3 (by omega) g1
  obtain ⟨v2, e2, -⟩ := fld Try.underlying3 (by omega) g2
  obtain ⟨v3, e3, -⟩ := fld Try.underlying3 (by omega) g3
  obtain ⟨v4, e4, w4⟩ := fld Try.underlying21 (by omega) g4
  simp only [List.drop_zero, List.drop_succ_cons, List.take_succ_cons, List.take_zero, List.cons.injEq, and_true] at e0 e1 e2 e3 e4
  subst e0 e1 e2 e3 e4
  exact ⟨⟨v0, v1, v2, v3, v4⟩, rfl, in32 w4⟩
theorem open34 {n : Nat} {cs : List Value} {x : DataW H × List MemPlace} (h : DataW.trod enc Try.prog w base spare held n 34 cs = some x) : ∃ z : S34, cs = (it z).toList ∧ okx z := by
 obtain ⟨xs, n', -, -, hl, hlen, hf⟩ := DataW.trod_struct Try.underlying34 h
 rw [co34] at hl
 have hlen3 : xs.length = 3 := hlen
 match cs, hl with
 | [a, b, c, d, e, f, g], _ =>
  have g0 := hf 0 _ rfl
  have g1 := hf 1 _ rfl
  have g2 := hf 2 _ rfl
  simp only [List.getElem_toArray, List.getElem_cons_zero, List.getElem_cons_succ, co3, co32] at g0 g1 g2
  obtain ⟨v0, e0, -⟩ := fld Try.underlying3 (by omega) g0
  obtain ⟨v2, e2, w2⟩ := fld Try.underlying3 (by omega) g2
  rw [List.getElem?_eq_getElem (by omega)] at g1
  obtain ⟨z, e1, w1⟩ := open32 g1
  simp only [List.drop_zero, List.drop_succ_cons, List.take_succ_cons, List.take_zero, List.cons.injEq, and_true] at e0 e1 e2
  obtain ⟨rfl, rfl, rfl, rfl, rfl⟩ := e1
  subst e0 e2
  exact ⟨⟨v0, z, v2⟩, rfl, in64 w2, w1⟩
theorem open48 {n : Nat} {cs : List Value} {x : DataW H × List MemPlace} (h : DataW.trod enc Try.prog w base spare held n 48 cs = some x) : ∃ z : S48, cs = (sm z).toList ∧ okx z.f1 := by
 obtain ⟨xs, n', -, -, hl, hlen, hf⟩ := DataW.trod_struct Try.underlying48 h
 rw [co48] at hl
 have hlen2 : xs.length = 2 := hlen
 have g0 := hf 0 _ rfl
 have g1 := hf 1 _ rfl
 simp only [List.getElem_toArray, List.getElem_cons_zero, List.getElem_cons_succ, co3, co34] at g0 g1
 obtain ⟨v0, e0, -⟩ := fld Try.underlying3 (by omega) g0
 rw [List.getElem?_eq_getElem (by omega)] at g1
 obtain ⟨z, e1, w1⟩ := open34 g1
 match cs, hl with
 | [a, b, c, d, e, f, g, i], _ =>
  simp only [List.drop_zero, List.drop_succ_cons, List.take_succ_cons, List.take_zero, List.cons.injEq, and_true] at e0 e1
  obtain ⟨rfl, rfl, rfl, rfl, rfl, rfl, rfl⟩ := e1
  subst e0
  exact ⟨⟨v0, z⟩, rfl, w1⟩
instance : Inhabited S48 := ⟨z48⟩
theorem open_items {fuel len cap : Nat} {a : Option Addr} {x : DataW H × List MemPlace} (h : DataW.trod enc Try.prog w base spare held fuel 22 [.slice a len cap] = some x) : ∃ l : List S48, len = l.length ∧ l.length ≤ cap ∧ Kd.C k48 w a l.length l ∧ ∀ y ∈ l, okx y.f1 := by
 rcases open_slice Try.underlying22 h with ⟨hcs, -⟩ | ⟨ad, len', cap', m, n, D, Pl, hcs, hb, hl, hm, hmm, -, hx⟩
 · simp only [List.cons.injEq, Value.slice.injEq, and_true] at hcs
   obtain ⟨rfl, rfl, rfl⟩ := hcs
   exact ⟨[], rfl, Nat.le_refl _, ⟨rfl, by decide, fun h => absurd h (by decide)⟩, fun y h => by cases h⟩
 · simp only [List.cons.injEq, Value.slice.injEq, and_true] at hcs
   obtain ⟨rfl, rfl, rfl⟩ := hcs
   have hlm : len ≤ m := by rw [hmm]; split <;> omega
   obtain ⟨q, hq⟩ := choose_lt (α := S48) (n := len) (p := fun i y => (∀ (j : Nat) (u : Value), (sm y).toList[j]? = some u → w.cell? (ad.add (i * 8 + j)) = some u) ∧ okx y.f1) (fun i hi => by
    obtain ⟨cs', h1, h2⟩ := hx i (by omega)
    obtain ⟨z, rfl, hz⟩ := open48 h2
    refine ⟨z, fun j u hu => ?_, hz⟩
    rw [co48] at h1
    obtain ⟨_, hlen, hcell⟩ := World.cells?_some h1
    have hj : j < 8 := (List.getElem?_eq_some_iff.1 hu).1
    have := hcell j hj
    rw [add_add, hu] at this
    exact this)
   have hlen : ((List.range len).map q).length = len := by simp
   refine ⟨(List.range len).map q, hlen.symm, by rw [hlen]; exact hl, ⟨rfl, by rw [hlen]; unfold maxLen at hm; omega, fun _ => ⟨ad, rfl, fun j p hp => ?_⟩⟩, fun y hy => ?_⟩
   · have hj : j < len := by have := (List.getElem?_eq_some_iff.1 hp).1; rwa [hlen] at this
     obtain rfl : q j = p := by simpa [hj] using hp
     exact ⟨(sm (q j)).toList, rfl, k48_mk w (q j), (hq j hj).1⟩
   · obtain ⟨i, hi, rfl⟩ := List.mem_map.1 hy
     exact (hq i (List.mem_range.1 hi)).2
end
end Go.Proofs.Ytihecimbhhlhaaa.Rl
