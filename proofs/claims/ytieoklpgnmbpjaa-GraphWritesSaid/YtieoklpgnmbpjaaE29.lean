/- Networks and rows of bytes that came in. -/
import Derived.Test.YtieoklpgnmbpjaaE9
import Derived.Test.YtieoklpgnmbpjaaE7
import Derived.Deep.Slices
import Derived.ChangeArms
import Derived.ChangeSame
import Derived.OpenShut
namespace Go.Proofs.Ytieoklpgnmbpjaa.Gr
open Go.RowKit Dr
open Go.Proofs.YtieoklpgnmbpjaaW.PrintWords (Kd Kd.C Kd.R Kd.M_step Kd.C_below Kd.C_get Kd.R_below Kd.R_reads Kd.R_reads' Kd.R_types Kd.R_step Kd.R_alloc Kd.R_drew Kd.R_lower add_field Kd.R_append Kd.R_bound Kd.R_move Kd.R_mono Kd.R_nil Kd.R_set Kd.R_ne Kd.R_over' Kd.R_typed Kd.C_nil Kd.R_slice Kd.R_append_rows Kd.R_form ReadsRow Kd.C_string)
set_option linter.unusedVariables false
set_option linter.unusedSimpArgs false
set_option maxRecDepth 100000
section
open Go.ChangeShapes Go.WideShapes Go.Deep
variable {H : Type} {enc : TypeId × Value → H} {w : World} {base : Nat} {spare : Nat → Bool} {held : Bool}
theorem add_add2 (ad : Addr) (i j : Nat) : (ad.add i).add j = ad.add (i + j) := Addr.add_add ..
/-- A row that came in. -/
theorem open_rows {α : Type} [Inhabited α] (d : Kd α) {okx : α → Prop} {t e : TypeId} (ht : Try.prog.underlying t = some (.slice e)) (hsz : Try.prog.cellsOf e = d.sz)
    (hel : ∀ (n : Nat) (cs : List Value) (x : DataW H × List MemPlace), DataW.trod enc Try.prog w base spare held n e cs = some x → ∃ z, d.K w z cs ∧ okx z)
    {fuel : Nat} {cs : List Value} {x : DataW H × List MemPlace} (h : DataW.trod enc Try.prog w base spare held fuel t cs = some x) :
    ∃ (a : Option Addr) (l : List α) (cap : Nat), cs = [.slice a l.length cap] ∧ l.length ≤ cap ∧ d.C w a l.length l ∧ ∀ y ∈ l, okx y := by
  rcases open_slice ht h with ⟨hcs, -⟩ | ⟨ad, len, cap, m, n, D, Pl, hcs, hb, hl, hm, hmm, -, hx⟩
  · exact ⟨none, [], 0, hcs, Nat.le_refl _, ⟨rfl, Nat.zero_le _, fun h => absurd h (Nat.lt_irrefl _)⟩, fun y h => by cases h⟩
  · have hlm : len ≤ m := by rw [hmm]; split <;> omega
    obtain ⟨q, hq⟩ := choose_lt (α := α) (n := len) (p := fun i y => ∃ c, c.length = d.sz ∧ d.K w y c ∧ (∀ (j : Nat) (u : Value), c[j]? = some u → w.cell? (ad.add (i * d.sz + j)) = some u) ∧ okx y) (fun i hi => by
      obtain ⟨cs', h1, h2⟩ := hx i (by omega)
      obtain ⟨z, hz, ho⟩ := hel _ _ _ h2
      rw [hsz] at h1
      obtain ⟨_, hlen, hcell⟩ := World.cells?_some h1
      refine ⟨z, cs', hlen, hz, fun j u hu => ?_, ho⟩
      have hj : j < d.sz := by have := (List.getElem?_eq_some_iff.1 hu).1; omega
      have := hcell j hj
      rw [Addr.add_add, hu] at this
      exact this)
    have hlen : ((List.range len).map q).length = len := by simp
    refine ⟨some ad, (List.range len).map q, cap, by rw [hlen]; exact hcs, by rw [hlen]; exact hl, ⟨rfl, by rw [hlen]; unfold maxLen at hm; omega, fun _ => ⟨ad, rfl, fun j p hp => ?_⟩⟩, fun y hy => ?_⟩
    · have hj : j < len := by have := (List.getElem?_eq_some_iff.1 hp).1; rwa [hlen] at this
      obtain rfl : q j = p := by simpa [hj] using hp
      obtain ⟨c, h1, h2, h3, -⟩ := hq j hj
      exact ⟨c, h1, h2, h3⟩
    · obtain ⟨i, hi, rfl⟩ := List.mem_map.1 hy
      obtain ⟨c, -, -, -, h4⟩ := hq i (List.mem_range.1 hi)
      exact h4
theorem open_ints {k : IntKind} {t e : TypeId} (ht : Try.prog.underlying t = some (.slice e)) (he : Try.prog.underlying e = some (.int k)) (hsz : Try.prog.cellsOf e = 1) {fuel : Nat} {cs : List Value} {x : DataW H × List MemPlace} (h : DataW.trod enc Try.prog w base spare held fuel t cs = some x) :
    ∃ (a : Option Addr) (l : List Int) (cap : Nat), cs = [.slice a l.length cap] ∧ l.length ≤ cap ∧ Kd.C (Kd.int k) w a l.length l ∧ ∀ y ∈ l, (Lit.int k y).wf = true :=
  open_rows (Kd.int k) ht hsz (fun n cs x h => by
    obtain ⟨v, rfl, -, hw⟩ := DataW.trod_int he h
    exact ⟨v, rfl, hw⟩) h
theorem co3 : Try.prog.cellsOf 3 = 1 := by kernel_rfl
theorem co21 : Try.prog.cellsOf 21 = 1 := by kernel_rfl
theorem co5 : Try.prog.cellsOf 5 = 1 := by kernel_rfl
theorem co61 : Try.prog.cellsOf 61 = 1 := by kernel_rfl
theorem co39 : Try.prog.cellsOf 39 = 1 := by kernel_rfl
theorem co40 : Try.prog.cellsOf 40 = 1 := by kernel_rfl
theorem co23 : Try.prog.cellsOf 23 = 1 := by kernel_rfl
theorem co24 : Try.prog.cellsOf 24 = 1 := by kernel_rfl
theorem co52 : Try.prog.cellsOf 52 = 2 := by kernel_rfl
theorem co53 : Try.prog.cellsOf 53 = 4 := by kernel_rfl
theorem co22 : Try.prog.cellsOf 22 = 3 := by kernel_rfl
theorem co42 : Try.prog.cellsOf 42 = 2 := by kernel_rfl
theorem co55 : Try.prog.cellsOf 55 = 26 := by kernel_rfl
theorem co26 : Try.prog.cellsOf 26 = 6 := by kernel_rfl
theorem fld {n : Nat} {t : TypeId} {k : IntKind} {l : List Value} {xs : List (DataW H × List MemPlace)} {i : Nat} (hu : Try.prog.underlying t = some (.int k)) (hi : i < xs.length) (h : DataW.trod enc Try.prog w base spare held n t l = xs[i]?) : ∃ v, l = [.int k v] ∧ (Lit.int k v).wf = true := by
  rw [List.getElem?_eq_getElem hi] at h
  obtain ⟨v, h1, -, h2⟩ := DataW.trod_int hu h
  exact ⟨v, h1, h2⟩
theorem arr_fld {m t i : Nat} {n : Nat} {l : List Value} {xs : List (DataW H × List MemPlace)} (hu : Try.prog.underlying t = some (.array m 3)) (hc : Try.prog.cellsOf t = m) (hi : i < xs.length) (h : DataW.trod enc Try.prog w base spare held n t l = xs[i]?) : l.length = m ∧ ∀ j, j < m → ∃ v, l[j]? = some (.int .i64 v) := by
  rw [List.getElem?_eq_getElem hi] at h
  obtain ⟨ys, q, -, -, hl, hy, hf⟩ := DataW.trod_array hu h
  rw [hc] at hl
  refine ⟨hl, fun j hj => ?_⟩
  have h1 := hf j hj
  rw [co3, Nat.mul_one] at h1
  obtain ⟨v, h2, -⟩ := fld Try.underlying3 (by omega) h1
  refine ⟨v, ?_⟩
  have h3 := congrArg (fun z : List Value => z[0]?) h2
  simpa [List.getElem?_take, List.getElem?_drop] using h3
theorem l2_of {l : List Value} (h : l.length = 2 ∧ ∀ j, j < 2 → ∃ v, l[j]? = some (.int .i64 v)) : ∃ a b : Int, l = [.int .i64 a, .int .i64 b] := by
  obtain ⟨hl, hf⟩ := h
  obtain ⟨a, ha⟩ := hf 0 (by decide)
  obtain ⟨b, hb⟩ := hf 1 (by decide)
  match l, hl with
  | [p, q], _ => exact ⟨a, b, by simp at ha hb; rw [ha, hb]⟩
theorem l3_of {l : List Value} (h : l.length = 3 ∧ ∀ j, j < 3 → ∃ v, l[j]? = some (.int .i64 v)) : ∃ a b c : Int, l = [.int .i64 a, .int .i64 b, .int .i64 c] := by
  obtain ⟨hl, hf⟩ := h
  obtain ⟨a, ha⟩ := hf 0 (by decide)
  obtain ⟨b, hb⟩ := hf 1 (by decide)
  obtain ⟨c, hc⟩ := hf 2 (by decide)
  match l, hl with
  | [p, q, r], _ => exact ⟨a, b, c, by simp at ha hb hc; rw [ha, hb, hc]⟩
theorem l4_of {l : List Value} (h : l.length = 4 ∧ ∀ j, j < 4 → ∃ v, l[j]? = some (.int .i64 v)) : ∃ a b c d : Int, l = [.int .i64 a, .int .i64 b, .int .i64 c, .int .i64 d] := by
  obtain ⟨hl, hf⟩ := h
  obtain ⟨a, ha⟩ := hf 0 (by decide)
  obtain ⟨b, hb⟩ := hf 1 (by decide)
  obtain ⟨c, hc⟩ := hf 2 (by decide)
  obtain ⟨d, hd⟩ := hf 3 (by decide)
  match l, hl with
  | [p, q, r, s], _ => exact ⟨a, b, c, d, by simp at ha hb hc hd; rw [ha, hb, hc, hd]⟩
def okK (x : List Int × List Int) : Prop := (∀ z ∈ x.1, -128 ≤ z ∧ z ≤ 127) ∧ ∀ z ∈ x.2, -2147483648 ≤ z ∧ z ≤ 2147483647
def okN (x : List Int) : Prop := (-2147483648 ≤ x.getD 14 0 ∧ x.getD 14 0 ≤ 2147483647) ∧ (-2147483648 ≤ x.getD 15 0 ∧ x.getD 15 0 ≤ 2147483647)
theorem wf8 {z : Int} (h : (Lit.int .i8 z).wf = true) : -128 ≤ z ∧ z ≤ 127 := by
  simp only [Lit.wf, Bool.and_eq_true, decide_eq_true_eq] at h
  exact h
theorem wf32 {z : Int} (h : (Lit.int .i32 z).wf = true) : -2147483648 ≤ z ∧ z ≤ 2147483647 := by
  simp only [Lit.wf, Bool.and_eq_true, decide_eq_true_eq] at h
  exact h
theorem wfu8 {z : Int} (h : (Lit.int .u8 z).wf = true) : 0 ≤ z ∧ z < 256 := by
  simp only [Lit.wf, Bool.and_eq_true, decide_eq_true_eq] at h
  have e1 : IntKind.u8.min = 0 := by decide
  have e2 : IntKind.u8.max = 255 := by decide
  omega
theorem open42 {n : Nat} {cs : List Value} {x : DataW H × List MemPlace} (h : DataW.trod enc Try.prog w base spare held n 42 cs = some x) : ∃ z, kCo.K w z cs ∧ okK z := by
  obtain ⟨xs, n', -, -, hl, hlen, hf⟩ := DataW.trod_struct Try.underlying42 h
  rw [co42] at hl
  have hlen2 : xs.length = 2 := hlen
  have g0 := hf 0 _ rfl
  have g1 := hf 1 _ rfl
  simp only [List.getElem_toArray, List.getElem_cons_zero, List.getElem_cons_succ, co39, co40] at g0 g1
  rw [List.getElem?_eq_getElem (by omega)] at g0 g1
  obtain ⟨A1, l1, c1, e1, k1, C1, w1⟩ := open_ints Try.underlying39 Try.underlying61 co61 g0
  obtain ⟨A2, l2, c2, e2, k2, C2, w2⟩ := open_ints Try.underlying40 Try.underlying21 co21 g1
  match cs, hl with
  | [a, b], _ =>
    simp only [List.drop_zero, List.drop_succ_cons, List.take_succ_cons, List.take_zero, List.cons.injEq, and_true] at e1 e2
    subst e1 e2
    exact ⟨(l1, l2), ⟨[_], [_], rfl, ⟨A1, c1, rfl, k1, C1⟩, ⟨A2, c2, rfl, k2, C2⟩⟩, fun z hz => wf8 (w1 z hz), fun z hz => wf32 (w2 z hz)⟩
set_option maxHeartbeats 4000000 in
theorem open55 {n : Nat} {cs : List Value} {x : DataW H × List MemPlace} (h : DataW.trod enc Try.prog w base spare held n 55 cs = some x) : ∃ z, kNd.K w z cs ∧ okN z := by
  obtain ⟨xs, n', -, -, hl, hlen, hf⟩ := DataW.trod_struct Try.underlying55 h
  rw [co55] at hl
  have hlen2 : xs.length = 19 := hlen
  have g0 := hf 0 _ rfl
  have g1 := hf 1 _ rfl
  have g2 := hf 2 _ rfl
  have g3 := hf 3 _ rfl
  have g4 := hf 4 _ rfl
  have g5 := hf 5 _ rfl
  have g6 := hf 6 _ rfl
  have g7 := hf 7 _ rfl
  have g8 := hf 8 _ rfl
  have g9 := hf 9 _ rfl
  have g10 := hf 10 _ rfl
  have g11 := hf 11 _ rfl
  have g12 := hf 12 _ rfl
  have g13 := hf 13 _ rfl
  have g14 := hf 14 _ rfl
  have g15 := hf 15 _ rfl
  have g16 := hf 16 _ rfl
  have g17 := hf 17 _ rfl
  have g18 := hf 18 _ rfl
  simp only [List.getElem_toArray, List.getElem_cons_zero, List.getElem_cons_succ, co3, co21, co22, co52, co53] at g0 g1 g2 g3 g4 g5 g6 g7 g8 g9 g10 g11 g12 g13 g14 g15 g16 g17 g18
  obtain ⟨a0, e0, -⟩ := fld Try.underlying3 (by omega) g0
  obtain ⟨a1, e1, -⟩ := fld Try.underlying3 (by omega) g1
  obtain ⟨a2, e2, -⟩ := fld Try.underlying3 (by omega) g2
  obtain ⟨a3, a4, e3⟩ := l2_of (arr_fld Try.underlying52 co52 (by omega) g3)
  obtain ⟨a5, a6, e4⟩ := l2_of (arr_fld Try.underlying52 co52 (by omega) g4)
  obtain ⟨a7, a8, a9, a10, e5⟩ := l4_of (arr_fld Try.underlying53 co53 (by omega) g5)
  obtain ⟨a11, e6, -⟩ := fld Try.underlying3 (by omega) g6
  obtain ⟨a12, e7, -⟩ := fld Try.underlying3 (by omega) g7
  obtain ⟨a13, e8, -⟩ := fld Try.underlying3 (by omega) g8
  obtain ⟨a14, e9, w14⟩ := fld Try.underlying21 (by omega) g9
  obtain ⟨a15, e10, w15⟩ := fld Try.underlying21 (by omega) g10
  obtain ⟨a16, e11, -⟩ := fld Try.underlying3 (by omega) g11
  obtain ⟨a17, e12, -⟩ := fld Try.underlying3 (by omega) g12
  obtain ⟨a18, e13, -⟩ := fld Try.underlying3 (by omega) g13
  obtain ⟨a19, e14, -⟩ := fld Try.underlying3 (by omega) g14
  obtain ⟨a20, e15, -⟩ := fld Try.underlying3 (by omega) g15
  obtain ⟨a21, e16, -⟩ := fld Try.underlying3 (by omega) g16
  obtain ⟨a22, e17, -⟩ := fld Try.underlying3 (by omega) g17
  obtain ⟨a23, a24, a25, e18⟩ := l3_of (arr_fld Try.underlying22 co22 (by omega) g18)
  clear hf g0 g1 g2 g3 g4 g5 g6 g7 g8 g9 g10 g11 g12 g13 g14 g15 g16 g17 g18
  match cs, hl with
  | [b0, b1, b2, b3, b4, b5, b6, b7, b8, b9, b10, b11, b12, b13, b14, b15, b16, b17, b18, b19, b20, b21, b22, b23, b24, b25], _ =>
    simp only [List.drop_zero, List.drop_succ_cons, List.take_succ_cons, List.take_zero, List.cons.injEq, and_true] at e0 e1 e2 e3 e4 e5 e6 e7 e8 e9 e10 e11 e12 e13 e14 e15 e16 e17 e18
    subst e0
    subst e1
    subst e2
    obtain ⟨rfl, rfl⟩ := e3
    obtain ⟨rfl, rfl⟩ := e4
    obtain ⟨rfl, rfl, rfl, rfl⟩ := e5
    subst e6
    subst e7
    subst e8
    subst e9
    subst e10
    subst e11
    subst e12
    subst e13
    subst e14
    subst e15
    subst e16
    subst e17
    obtain ⟨rfl, rfl, rfl⟩ := e18
    exact ⟨[a0, a1, a2, a3, a4, a5, a6, a7, a8, a9, a10, a11, a12, a13, a14, a15, a16, a17, a18, a19, a20, a21, a22, a23, a24, a25], rfl, wf32 w14, wf32 w15⟩
/-- A network that came in. -/
theorem open26 {n : Nat} {cs : List Value} {x : DataW H × List MemPlace} (h : DataW.trod enc Try.prog w base spare held n 26 cs = some x) : ∃ (a b c o : Int) (AU AV : Option Addr) (cU cV : Nat) (ks : List (List Int × List Int)) (ns : List (List Int)), cs = [.int .i64 a, .int .i64 b, .int .i64 c, .slice AU ks.length cU, .slice AV ns.length cV, .int .i64 o] ∧ ks.length ≤ cU ∧ ns.length ≤ cV ∧ kCo.C w AU ks.length ks ∧ kNd.C w AV ns.length ns ∧ (∀ y ∈ ks, okK y) ∧ ∀ y ∈ ns, okN y := by
  obtain ⟨xs, n', -, -, hl, hlen, hf⟩ := DataW.trod_struct Try.underlying26 h
  rw [co26] at hl
  have hlen2 : xs.length = 4 := hlen
  have g0 := hf 0 _ rfl
  have g1 := hf 1 _ rfl
  have g2 := hf 2 _ rfl
  have g3 := hf 3 _ rfl
  simp only [List.getElem_toArray, List.getElem_cons_zero, List.getElem_cons_succ, co3, co22, co23, co24] at g0 g1 g2 g3
  obtain ⟨a, b, c, e0⟩ := l3_of (arr_fld Try.underlying22 co22 (by omega) g0)
  obtain ⟨o, e3, -⟩ := fld Try.underlying3 (by omega) g3
  rw [List.getElem?_eq_getElem (by omega)] at g1 g2
  obtain ⟨AU, ks, cU, e1, k1, C1, w1⟩ := open_rows kCo Try.underlying23 co42 (fun n cs x h => open42 h) g1
  obtain ⟨AV, ns, cV, e2, k2, C2, w2⟩ := open_rows kNd Try.underlying24 co55 (fun n cs x h => open55 h) g2
  match cs, hl with
  | [p0, p1, p2, p3, p4, p5], _ =>
    simp only [List.drop_zero, List.drop_succ_cons, List.take_succ_cons, List.take_zero, List.cons.injEq, and_true] at e0 e1 e2 e3
    obtain ⟨rfl, rfl, rfl⟩ := e0
    subst e1 e2 e3
    exact ⟨a, b, c, o, AU, AV, cU, cV, ks, ns, rfl, k1, k2, C1, C2, w1, w2⟩
end
end Go.Proofs.Ytieoklpgnmbpjaa.Gr
