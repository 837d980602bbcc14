/- Constants and nodes in memory; what lies there while a network is read. -/
import Derived.Test.YtieoklpgnmbpjaaE8
namespace Go.Proofs.Ytieoklpgnmbpjaa.Gr
open Go.RowKit Dr
open Go.Proofs.YtieoklpgnmbpjaaW.PrintWords (Kd Kd.C Kd.R Kd.M_step Kd.C_below Kd.C_get Kd.R_below Kd.R_reads Kd.R_reads' Kd.R_types Kd.R_step Kd.R_alloc Kd.R_drew Kd.R_lower add_field Kd.R_append Kd.R_bound Kd.R_move Kd.R_mono Kd.R_nil Kd.R_set Kd.R_ne Kd.R_over' Kd.R_typed Kd.C_nil Kd.R_slice Kd.R_append_rows Kd.R_form ReadsRow)
set_option linter.unusedVariables false
set_option linter.unusedSimpArgs false
set_option maxRecDepth 100000
theorem nrow_len (l : List Int) : (nrow l).length = 26 := rfl
theorem nrow_one (l : List Int) : ∀ u ∈ nrow l, u.oneCell' = true := by
  intro u hu
  simp only [nrow, List.mem_cons, List.not_mem_nil, or_false] at hu
  rcases hu with rfl | rfl | rfl | rfl | rfl | rfl | rfl | rfl | rfl | rfl | rfl | rfl | rfl | rfl | rfl | rfl | rfl | rfl | rfl | rfl | rfl | rfl | rfl | rfl | rfl | rfl <;> rfl
/-- A node. -/
def kNd : Kd (List Int) where
  sz := 26
  E := []
  K := fun _ x cs => cs = nrow x
  M := fun _ _ _ x cs => cs = nrow x
  K_len := fun h => by rw [h]; rfl
  K_one := fun h u hu => nrow_one _ u (by rw [← h]; exact hu)
  K_below := fun _ h => h
  K_of_M := fun h => h
  M_mono := fun _ h => h
  M_bound := fun h => h
  M_move := fun _ h => h
  M_lower := fun _ h => h
/-- A constant. -/
def kCo : Kd (List Int × List Int) := Kd.pair (Kd.slice 61 (Kd.int .i8)) (Kd.slice 21 (Kd.int .i32))
/-- Rows of one type's blocks keep away from a block of another type. -/
theorem R_okne {α : Type} {d : Kd α} {e t base : Nat} {W : World} {v u : Value} {xs : List α} (h : d.R e W base (fun _ => True) v xs) (hu : ∀ k, u.ownBlock = some k → ∃ cells, W.heap[k]? = some (.cells cells t (0, 0))) (ht : ∀ q, q ∈ e :: d.E → q ≠ t) : d.R e W base (fun k => some k ≠ u.ownBlock) v xs :=
  Kd.R_mono (Kd.R_bound h) (fun k hk he => by
    obtain ⟨_, _, _, q, hq, cells, hc⟩ := hk
    obtain ⟨cells', hc'⟩ := hu k he.symm
    rw [hc] at hc'
    injection hc' with h1
    injection h1 with h1 h2
    exact ht q hq h2)
theorem kCo_M {W : World} {base : Nat} {ok : Nat → Prop} {u v : Value} {x : List Int × List Int} (hu : Kd.R (Kd.int .i8) 61 W base ok u x.1) (hv : Kd.R (Kd.int .i32) 21 W base ok v x.2) : kCo.M W base ok x [u, v] :=
  ⟨[u], [v], rfl, ⟨u, rfl, hu⟩, ⟨v, rfl, hv⟩⟩
/-- A row of one element, of which its cells are known. -/
theorem row_one {α : Type} {W : World} {gg t : Nat} {x : α} {cs : List Value} (h : W.heap[gg]? = some (.cells cs.toArray t (0, 0))) : ReadsRow (fun (y : α) ds => y = x ∧ ds = cs) cs.length W (some ⟨gg, 0, none⟩) 1 [x] := by
  refine ⟨rfl, by decide, fun _ => ⟨_, rfl, fun j p hj => ?_⟩⟩
  have : j = 0 := by have := (List.getElem?_eq_some_iff.1 hj).1; simp at this; omega
  subst this
  obtain rfl : x = p := by simpa using hj
  refine ⟨cs, rfl, ⟨rfl, rfl⟩, fun i u hu => ?_⟩
  have e : Addr.add ⟨gg, 0, none⟩ (0 * cs.length + i) = ⟨gg, i, none⟩ := by simp [go_sem]
  rw [e, blk_cell h]
  simpa using hu
def ZG : Array Value := #[.int .i64 0, .int .i64 0, .int .i64 0, .slice none 0 0, .slice none 0 0, .int .i64 0]
/-- What lies in memory while a network is read. -/
structure PS (w : World) (gr gg : Nat) (W : World) (u v : Value) (a b c o : Int) (cs : List (List Int × List Int)) (ns : List (List Int)) (s : List Int × Int) : Prop where
  res : W.heap[w.heap.size]? = some (.cells ZG 26 (0, 0))
  blk : W.heap[gg]? = some (.cells #[.int .i64 a, .int .i64 b, .int .i64 c, u, v, .int .i64 o] 26 (0, 0))
  ru : kCo.R 42 W (gr + 1) (fun _ => True) u cs
  rv : kNd.R 55 W (gr + 1) (fun _ => True) v ns
  rd : RD W w.heap.size gr s
  bel : Below w.heap.size w W
section
variable {w W W1 : World} {gr gg : Nat} {u v : Value} {a b c o : Int} {cs : List (List Int × List Int)} {ns : List (List Int)} {s s' : List Int × Int}
theorem PS.grown (h : PS w gr gg W u v a b c o cs ns s) (hg : W.grownBy W1 (some gr)) (h0 : w.heap.size < gr) (h1 : gr < gg) (hd : RD W1 w.heap.size gr s') : PS w gr gg W1 u v a b c o cs ns s' :=
  ⟨(hg.block _ (blk_lt h.res) (fun e => by injection e with e; omega)).trans h.res, (hg.block _ (blk_lt h.blk) (fun e => by injection e with e; omega)).trans h.blk, R_grown h.ru hg (by omega), R_grown h.rv hg (by omega), hd,
    h.bel.trans (grown_low hg (by omega) h.bel.size)⟩
theorem PS.size (h : PS w gr gg W u v a b c o cs ns s) : gr < W.heap.size := RD_lt h.rd
theorem PS.seto (h : PS w gr gg W u v a b c o cs ns s) (h0 : w.heap.size < gr) (h1 : gr < gg) (o' : Int) : PS w gr gg (W.setCell ⟨gg, 5, none⟩ (.int .i64 o')) u v a b c o' cs ns s :=
  have B : Below w.heap.size W (W.setCell ⟨gg, 5, none⟩ (.int .i64 o')) := (Below.refl _ _).setCell (p := ⟨gg, 5, none⟩) (by show _ ≤ gg; omega) _
  ⟨(Below.heap_setCell _ _ _ _ (by show w.heap.size ≠ gg; omega)).trans h.res, blk_put h.blk 5 _ rfl, Kd.R_set h.ru h.blk (by decide) _ _, Kd.R_set h.rv h.blk (by decide) _ _,
    RD_step h.rd B (Below.heap_setCell _ _ _ _ (by show gr ≠ gg; omega)), h.bel.trans B⟩
theorem PS.setu {u1 : Value} {cs1 : List (List Int × List Int)} (h : PS w gr gg W u v a b c o cs ns s) (h0 : w.heap.size < gr) (h1 : gr < gg) (hu : kCo.R 42 W1 (gr + 1) (fun _ => True) u1 cs1) (hB : Below (gr + 1) W W1) (hg : W.grownBy W1 u.ownBlock) : PS w gr gg (W1.setCell ⟨gg, 3, none⟩ u1) u1 v a b c o cs1 ns s :=
  have hk : W1.heap[gg]? = some (.cells #[.int .i64 a, .int .i64 b, .int .i64 c, u, v, .int .i64 o] 26 (0, 0)) := (hg.block _ (blk_lt h.blk) (Kd.R_ne h.ru h.blk (by decide))).trans h.blk
  have B : Below (gr + 1) W (W1.setCell ⟨gg, 3, none⟩ u1) := hB.setCell (p := ⟨gg, 3, none⟩) (by show _ ≤ gg; omega) _
  ⟨(B.block _ (by omega)).trans h.res, blk_put hk 3 _ rfl, Kd.R_set hu hk (by decide) _ _, Kd.R_set (Kd.R_over' h.rv (Kd.R_typed h.ru) (by decide) hg) hk (by decide) _ _,
    RD_step h.rd (B.mono (by omega)) (B.block _ (by omega)), h.bel.trans (B.mono (by omega))⟩
theorem PS.setv {v1 : Value} {ns1 : List (List Int)} (h : PS w gr gg W u v a b c o cs ns s) (h0 : w.heap.size < gr) (h1 : gr < gg) (hv : kNd.R 55 W1 (gr + 1) (fun _ => True) v1 ns1) (hB : Below (gr + 1) W W1) (hg : W.grownBy W1 v.ownBlock) : PS w gr gg (W1.setCell ⟨gg, 4, none⟩ v1) u v1 a b c o cs ns1 s :=
  have hk : W1.heap[gg]? = some (.cells #[.int .i64 a, .int .i64 b, .int .i64 c, u, v, .int .i64 o] 26 (0, 0)) := (hg.block _ (blk_lt h.blk) (Kd.R_ne h.rv h.blk (by decide))).trans h.blk
  have B : Below (gr + 1) W (W1.setCell ⟨gg, 4, none⟩ v1) := hB.setCell (p := ⟨gg, 4, none⟩) (by show _ ≤ gg; omega) _
  ⟨(B.block _ (by omega)).trans h.res, blk_put hk 4 _ rfl, Kd.R_set (Kd.R_over' h.ru (Kd.R_typed h.rv) (by decide) hg) hk (by decide) _ _, Kd.R_set hv hk (by decide) _ _,
    RD_step h.rd (B.mono (by omega)) (B.block _ (by omega)), h.bel.trans (B.mono (by omega))⟩
end
/-- So many, one behind the other. -/
def rep {α : Type} (f : List Int × Int → α × (List Int × Int)) : Nat → List Int × Int → List α × (List Int × Int)
  | 0, s => ([], s)
  | n + 1, s => ((rep f n s).1 ++ [(f (rep f n s).2).1], (f (rep f n s).2).2)
theorem rep_ok {α : Type} {f : List Int × Int → α × (List Int × Int)} (hf : ∀ s, okB s.1 → okB (f s).2.1) {s : List Int × Int} (h : okB s.1) : ∀ n, okB (rep f n s).2.1
  | 0 => h
  | n + 1 => hf _ (rep_ok hf h n)
theorem rep_len {α : Type} {f : List Int × Int → α × (List Int × Int)} (s : List Int × Int) : ∀ n, (rep f n s).1.length = n
  | 0 => rfl
  | n + 1 => by simp [rep, rep_len s n]
theorem info42 : (Try.prog.info? 42).map (fun i => (i.zero, i.size, i.bytes)) = some (some (.agg #[.slice none 0 0, .slice none 0 0]), kCo.sz, 48) := by kernel_rfl
theorem info55 : (Try.prog.info? 55).map (fun i => (i.zero, i.size, i.bytes)) = some (some (.agg (nrow []).toArray), kNd.sz, 200) := by kernel_rfl
/-- What a constant's call leaves, among loads. -/
def conS (b g : Nat) (s' : List Int × Int) (x : List Int × List Int) : DSpec (RG b g s') := ⟨fun v W => ∃ u1 v1, v = .agg #[u1, v1] ∧ Kd.R (Kd.int .i8) 61 W (g + 1) (fun _ => True) u1 x.1 ∧ Kd.R (Kd.int .i32) 21 W (g + 1) (fun _ => True) v1 x.2 ∧ RD W b g s', fun _ _ _ ⟨u1, v1, h1, h2, h3, h4⟩ hr => ⟨u1, v1, h1, R_grown h2 hr.1 (by omega), R_grown h3 hr.1 (by omega), hr.2 h4⟩⟩
def conR (b g : Nat) (s' : List Int × Int) (x : List Int × List Int) : DSpec (RG b g s') := ⟨fun v W => ∃ gg u1 v1, v = .slice (some ⟨gg, 0, none⟩) 1 1 ∧ W.heap[gg]? = some (.cells #[u1, v1] 42 (0, 0)) ∧ g < gg ∧ Kd.R (Kd.int .i8) 61 W (g + 1) (fun _ => True) u1 x.1 ∧ Kd.R (Kd.int .i32) 21 W (g + 1) (fun _ => True) v1 x.2, fun _ _ _ ⟨gg, u1, v1, h1, h2, h3, h4, h5⟩ hr => ⟨gg, u1, v1, h1, (hr.1.block gg (blk_lt h2) (fun e => by injection e with e; omega)).trans h2, h3, R_grown h4 hr.1 (by omega), R_grown h5 hr.1 (by omega)⟩⟩
end Go.Proofs.Ytieoklpgnmbpjaa.Gr
