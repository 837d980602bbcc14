/- Constants and nodes are read out of their rows. -/
import Derived.Test.YtieoklpgnmbpjaaE11
namespace Go.Proofs.Ytieoklpgnmbpjaa.Gr
open Go.RowKit Dr
open Go.Proofs.YtieoklpgnmbpjaaW.PrintWords (Kd Kd.C Kd.R Kd.M_step Kd.C_below Kd.C_get Kd.R_below Kd.R_reads Kd.R_reads' Kd.R_types Kd.R_step Kd.R_alloc Kd.R_drew Kd.R_lower add_field Kd.R_append Kd.R_bound Kd.R_move Kd.R_mono Kd.R_nil Kd.R_set Kd.R_ne Kd.R_over' Kd.R_typed Kd.C_nil Kd.R_slice Kd.R_append_rows Kd.R_form ReadsRow Kd.C_string)
set_option linter.unusedVariables false
set_option linter.unusedSimpArgs false
set_option maxRecDepth 100000
/-- A load of several cells. -/
theorem ld_cells {W : World} {ad : Addr} {row : List Value} (t : TypeId) (d : TypeDesc) (hc : ∀ (j : Nat) (v : Value), row[j]? = some v → W.cell? (ad.add j) = some v) (hagg : (isAgg t).run Try.prog W = .ok true W) (hs : (sizeOf t).run Try.prog W = .ok row.length W) : (loadVar t ad).run Try.prog W = .ok (.agg row.toArray) W := by
  have hl : (loadCells ad row.length).run Try.prog W = .ok row.toArray W := run_loadCells_list W ad row hc
  simp [loadVar, Sem.run_bind, hagg, hs, hl]
theorem cells_below {W W' : World} {ad : Addr} {row : List Value} (hc : ∀ (j : Nat) (v : Value), row[j]? = some v → W.cell? (ad.add j) = some v) (hb : Below W.heap.size W W') : ∀ (j : Nat) (v : Value), row[j]? = some v → W'.cell? (ad.add j) = some v :=
  fun j v hv => (hb.cell (World.block_lt_of_cell? _ _ (hc j v hv))).trans (hc j v hv)
theorem co_get {W : World} {A : Option Addr} {n i : Nat} {cs : List (List Int × List Int)} {x : List Int × List Int} (h : kCo.C W A n cs) (hx : cs[i]? = some x) : ∃ ad A1 c1 A2 c2, A = some ad ∧ (∀ (j : Nat) (v : Value), [Value.slice A1 x.1.length c1, Value.slice A2 x.2.length c2][j]? = some v → W.cell? ((ad.add (i * 2)).add j) = some v) ∧ x.1.length ≤ c1 ∧ x.2.length ≤ c2 ∧ Kd.C (Kd.int .i8) W A1 x.1.length x.1 ∧ Kd.C (Kd.int .i32) W A2 x.2.length x.2 := by
  have hi : i < cs.length := (List.getElem?_eq_some_iff.1 hx).1
  obtain ⟨ad, e, hc⟩ := h.2.2 (by have := h.1; omega)
  obtain ⟨c, h1, h2, h3⟩ := hc i x hx
  obtain ⟨d0, d1, rfl, ⟨A1, c1, rfl, k1, k2⟩, ⟨A2, c2, rfl, k3, k4⟩⟩ := h2
  exact ⟨ad, A1, c1, A2, c2, e, fun j v hv => by rw [Addr.add_add]; exact h3 j v hv, k1, k3, k2, k4⟩
theorem nd_get {W : World} {A : Option Addr} {n i : Nat} {ns : List (List Int)} {x : List Int} (h : kNd.C W A n ns) (hx : ns[i]? = some x) : ∃ ad, A = some ad ∧ (∀ (j : Nat) (v : Value), (nrow x)[j]? = some v → W.cell? ((ad.add (i * 26)).add j) = some v) := by
  have hi : i < ns.length := (List.getElem?_eq_some_iff.1 hx).1
  obtain ⟨ad, e, hc⟩ := h.2.2 (by have := h.1; omega)
  obtain ⟨c, h1, h2, h3⟩ := hc i x hx
  obtain rfl : c = nrow x := h2
  exact ⟨ad, e, fun j v hv => by rw [Addr.add_add]; exact h3 j v hv⟩
theorem ix23 (ad : Addr) (n c i : Nat) (h : i < n) (W : World) : (Instr.indexAt 23 (.slice (some ad) n c) (.int .i64 (i : Int))).run Try.prog W = .ok (.pointer (some (ad.add (i * 2)))) W := by
  have e : (sizeOf (Try.prog.elem 23)).run Try.prog W = .ok 2 W := by kernel_rfl
  rw [run_indexAt_slice W 23 ad n c .i64 i (by kernel_rfl), if_pos ⟨by omega, by omega⟩, e]
  simp only [Result.andThen_ok, Int.toNat_natCast]
theorem ix24 (ad : Addr) (n c i : Nat) (h : i < n) (W : World) : (Instr.indexAt 24 (.slice (some ad) n c) (.int .i64 (i : Int))).run Try.prog W = .ok (.pointer (some (ad.add (i * 26)))) W := by
  have e : (sizeOf (Try.prog.elem 24)).run Try.prog W = .ok 26 W := by kernel_rfl
  rw [run_indexAt_slice W 24 ad n c .i64 i (by kernel_rfl), if_pos ⟨by omega, by omega⟩, e]
  simp only [Result.andThen_ok, Int.toNat_natCast]
theorem ld42 {W0 W : World} {ad : Addr} {u v : Value} (hc : ∀ (j : Nat) (z : Value), [u, v][j]? = some z → W0.cell? (ad.add j) = some z) (hb : Below W0.heap.size W0 W) : (loadVar 42 ad).run Try.prog W = .ok (.agg #[u, v]) W :=
  ld_cells 42 (row := [u, v]) (.int .i64) (cells_below hc hb) (by kernel_rfl) (by kernel_rfl)
theorem ld55 {W0 W : World} {ad : Addr} {x : List Int} (hc : ∀ (j : Nat) (z : Value), (nrow x)[j]? = some z → W0.cell? (ad.add j) = some z) (hb : Below W0.heap.size W0 W) : (loadVar 55 ad).run Try.prog W = .ok (.agg (nrow x).toArray) W :=
  ld_cells 55 (row := nrow x) (.int .i64) (cells_below hc hb) (by kernel_rfl) (by kernel_rfl)
def bigC (x : List Int × List Int) : Bool := decide (65536 < (x.1.length : Int)) || decide (65536 < (x.2.length : Int))
def bothC (x : List Int × List Int) : Bool := decide (0 < (x.1.length : Int)) && decide (0 < (x.2.length : Int))
theorem any_snoc {α : Type} {l : List α} {i : Nat} {x : α} (f : α → Bool) (h : l[i]? = some x) : (l.take (i + 1)).any f = ((l.take i).any f || f x) := by
  rw [List.take_add_one, h, List.any_append]
  simp
end Go.Proofs.Ytieoklpgnmbpjaa.Gr
