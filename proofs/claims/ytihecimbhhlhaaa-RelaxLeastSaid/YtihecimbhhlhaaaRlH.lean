/- Plain facts for RelaxLeast: the document's Places; choices. -/
import Derived.Test.YtihecimbhhlhaaaRlF
import Derived.Test.YtihecimbhhlhaaaRsPintleref13Places
namespace Go.Proofs.Ytihecimbhhlhaaa.Rl
open Go.RowKit Dr PRs
open Go.Proofs.YtihecimbhhlhaaaW.PrintWords (Kd Kd.C Kd.R Kd.C_below Kd.C_get Kd.R_below Kd.R_reads Kd.R_reads' Kd.R_types Kd.R_step Kd.R_alloc Kd.R_drew Kd.R_lower add_field)
set_option linter.unusedVariables false
set_option linter.unusedSimpArgs false
set_option maxRecDepth 100000

theorem set_ref (k : Nat) (hk : 5 ≤ k) (rd n : Int) (h : In32 n) : pintleref12_Set.f k rd n = some (Go.Proofs.Ytihecimbhhlhaaa.Pure.setL rd n) :=
  Go.Proofs.YtihecimbhhlhaaaW.PrintWords.at_rounds (g := fun k => pintleref12_Set.f k rd n) (fun k => pintleref12_Set.mono rd n k) hk (Go.Proofs.Ytihecimbhhlhaaa.Pure.ref_is rd n h.1 h.2)
theorem rd_far {far : Nat → Bool} {n i : Nat} (h : i < n) : Go.Proofs.YtihecimbhhlhaaaW.PrintWords.rdOf false (farL far n) (i : Int) = far i := by
  unfold Go.Proofs.YtihecimbhhlhaaaW.PrintWords.rdOf farL
  simp [List.getD, h]
theorem places_go (l : List S34) (far : Nat → Bool) (hl : l.length ≤ 4000) (hk : ∀ i, i < l.length → far i = true → (l.getD i z34).f0 = 3) (hI : ∀ x ∈ l, In32 x.f1.f4) : ∀ (d i : Nat), i + d = l.length → pintleref13_Places.l0 (2 * d + 7) l (farL far l.length) (begs l far i) (beg l far i) i = some (begs l far (l.length + 1))
  | 0, i, h => by
    obtain rfl : i = l.length := by omega
    simp only [pintleref13_Places.l0, Nat.mul_zero, Nat.zero_add]
    rw [if_neg (by omega), if_pos (by rw [begs_len]; omega), begs_succ]
  | d + 1, i, h => by
    have ih := places_go l far hl hk hI d (i + 1) (by omega)
    have hil : i < l.length := by omega
    have hx : rd_T34 l (i : Int) = l.getD i z34 := by unfold rd_T34; rw [Int.toNat_natCast]
    have hm : l.getD i z34 ∈ l := by
      rw [List.getD_eq_getElem?_getD, List.getElem?_eq_getElem hil]
      exact List.getElem_mem hil
    have e : wrap64 ((i : Int) + 1) = ((i + 1 : Nat) : Int) := by rw [w64 _ (by omega)]; rfl
    have hb := beg_in l far i
    have hsl := Go.Proofs.Ytihecimbhhlhaaa.Pure.setL_length (l.getD i z34).f1.f1 (l.getD i z34).f1.f4
    have hfar := rd_far (far := far) hil
    have eb : beg l far (i + 1) = beg l far i + sz (l.getD i z34) (far i) := rfl
    have hlen : ((farL far l.length).length : Int) = l.length := by rw [farL_len]
    have key : ∀ x8 : Int, (far i = false → (l.getD i z34).f0 ≠ 5 → sz (l.getD i z34) (far i) = x8) → 0 ≤ x8 ∧ x8 ≤ 4 → pintleref13_Places.j1 (2 * d + 8) l (farL far l.length) (begs l far (i + 1)) (beg l far i) i x8 = some (begs l far (l.length + 1)) := fun x8 h8 hx8 => by
      have fin : ∀ y : Int, sz (l.getD i z34) (far i) = y → 0 ≤ y ∧ y ≤ 8 → pintleref13_Places.l0 (2 * d + 7) l (farL far l.length) (begs l far (i + 1)) (wrap64 (beg l far i + y)) (wrap64 ((i : Int) + 1)) = some (begs l far (l.length + 1)) := fun y hy hy8 => by
        rw [e, w64 _ (by omega), ← hy, ← eb]
        exact ih
      have f8 : far i = true → sz (l.getD i z34) (far i) = 8 := fun q => by
        have h3 := hk i hil q
        unfold sz
        rw [if_neg (by omega), if_neg (by omega), if_pos q]
      show pintleref13_Places.j1 (2 * d + 7 + 1) _ _ _ _ _ _ = _
      simp only [pintleref13_Places.j1]
      rw [if_pos (by omega), if_pos (by omega), hx, hfar, hlen]
      by_cases c : (l.getD i z34).f0 = 5
      · rw [if_pos c, set_ref _ (by omega) _ _ (hI _ hm)]
        simp only [Option.bind_some]
        rw [if_pos (by omega)]
        cases q : far i with
        | true =>
          have := hk i hil q
          omega
        | false =>
          rw [if_neg (by decide), w64 (4 * _) (by omega)]
          exact fin _ (by unfold sz; rw [if_neg (by omega), if_pos c]) (by omega)
      · rw [if_neg c, if_pos (by omega)]
        cases q : far i with
        | true =>
          rw [if_pos rfl]
          exact fin 8 (f8 q) (by omega)
        | false =>
          rw [if_neg (by decide)]
          exact fin x8 (h8 q c) (by omega)
    show pintleref13_Places.l0 (2 * d + 8 + 1) _ _ _ _ _ = _
    simp only [pintleref13_Places.l0]
    rw [if_pos (by omega), if_pos (by rw [begs_len]; omega), begs_succ]
    simp only [Option.bind_some]
    rw [if_pos (by omega), hx]
    by_cases c : (l.getD i z34).f0 = 2
    · rw [if_pos c]
      exact key 0 (fun _ _ => by unfold sz; rw [if_pos c]) (by omega)
    · rw [if_neg c]
      exact key 4 (fun q q5 => by unfold sz; rw [if_neg c, if_neg q5, if_neg (by rw [q]; decide)]) (by omega)
theorem places_ref (l : List S34) (far : Nat → Bool) (hl : l.length ≤ 4000) (hk : ∀ i, i < l.length → far i = true → (l.getD i z34).f0 = 3) (hI : ∀ x ∈ l, In32 x.f1.f4) : pintleref13_Places.f (2 * l.length + 7) l (farL far l.length) = some (begs l far (l.length + 1)) := places_go l far hl hk hI l.length 0 (by omega)
/-- How many branches are among the first m. -/
def cnt (l : List S34) : Nat → Nat
  | 0 => 0
  | m + 1 => cnt l m + (if (l.getD m z34).f0 = 3 then 1 else 0)
theorem cnt_le (l : List S34) : ∀ m, cnt l m ≤ m
  | 0 => Nat.le_refl _
  | m + 1 => by
    have := cnt_le l m
    simp only [cnt]
    split <;> omega
/-- The branches that are let be far, up to m. -/
def fch (l : List S34) (lc : List Bool) (m : Nat) : Nat → Bool := fun j => decide (j < m) && ((l.getD j z34).f0 == 3) && lc.getD (cnt l j) false
theorem fch_kind {l : List S34} {lc : List Bool} {m i : Nat} (h : fch l lc m i = true) : (l.getD i z34).f0 = 3 := by
  unfold fch at h
  rw [Bool.and_eq_true, Bool.and_eq_true] at h
  exact eq_of_beq h.1.2
def bput (f : Nat → Bool) (i : Nat) (v : Bool) : Nat → Bool := fun j => if j = i then v else f j
theorem boolA_putv (far : Nat → Bool) {n i : Nat} (h : i < n) (v : Bool) : (boolA far n).setIfInBounds i (.bool v) = boolA (bput far i v) n := by
  apply Array.ext_getElem?
  intro j
  rw [Array.getElem?_setIfInBounds]
  by_cases hj : j < n
  · by_cases hij : i = j
    · subst hij
      rw [if_pos rfl, if_pos (by rw [boolA_size]; exact h), boolA_get _ h]
      simp [bput]
    · rw [if_neg hij, boolA_get _ hj, boolA_get _ hj]
      simp [bput, Ne.symm hij]
  · rw [if_neg (by omega), Array.getElem?_eq_none (by rw [boolA_size]; omega), Array.getElem?_eq_none (by rw [boolA_size]; omega)]
theorem fch_put {l : List S34} {lc : List Bool} {m : Nat} (h : (l.getD m z34).f0 = 3) : fch l lc (m + 1) = bput (fch l lc m) m (lc.getD (cnt l m) false) := by
  funext j
  unfold fch bput
  by_cases e : j = m
  · subst e
    rw [if_pos rfl, h, decide_eq_true (Nat.lt_succ_self _)]
    rfl
  · rw [if_neg e]
    have : decide (j < m + 1) = decide (j < m) := by
      by_cases q : j < m
      · rw [decide_eq_true q, decide_eq_true (by omega)]
      · rw [decide_eq_false q, decide_eq_false (by omega)]
    rw [this]
theorem fch_skip {l : List S34} {lc : List Bool} {m : Nat} (h : (l.getD m z34).f0 ≠ 3) : fch l lc (m + 1) = fch l lc m := by
  funext j
  unfold fch
  by_cases e : j = m
  · subst e
    have : ((l.getD j z34).f0 == 3) = false := by simpa using h
    rw [this]
    simp
  · have : decide (j < m + 1) = decide (j < m) := by
      by_cases q : j < m
      · rw [decide_eq_true q, decide_eq_true (by omega)]
      · rw [decide_eq_false q, decide_eq_false (by omega)]
    rw [this]
theorem ld_ch {W : World} {A : Option Addr} {lc : List Bool} {i : Nat} (h : Kd.C Kd.bool W A lc.length lc) (hi : i < lc.length) : ∃ ad, A = some ad ∧ W.cell? (ad.add i) = some (.bool (lc.getD i false)) := by
  obtain ⟨ad, c, e, _, hK, hc⟩ := Kd.C_get h false (i : Int) (by omega) (by omega)
  rw [Int.toNat_natCast] at hK hc
  obtain rfl : c = [.bool (lc.getD i false)] := hK
  refine ⟨ad, e, ?_⟩
  have := hc 0 _ rfl
  simpa [Kd.bool, Kd.scalar] using this
section
open Go.ChangeShapes Go.WideShapes Go.Deep
variable {H : Type} {enc : TypeId × Value → H} {w : World} {base : Nat} {spare : Nat → Bool} {held : Bool}
theorem co4 : Try.prog.cellsOf 4 = 1 := by kernel_rfl
theorem open_bools {fuel len cap : Nat} {a : Option Addr} {x : DataW H × List MemPlace} (h : DataW.trod enc Try.prog w base spare held fuel 26 [.slice a len cap] = some x) : ∃ l : List Bool, len = l.length ∧ l.length ≤ cap ∧ Kd.C Kd.bool w a l.length l := by
  rcases open_slice1 Try.underlying26 co4 h with ⟨hcs, -⟩ | ⟨ad, len', cap', m, n, V, D, Pl, hcs, hb, hl, hm, hmm, -, hx⟩
  · simp only [List.cons.injEq, Value.slice.injEq, and_true] at hcs
    obtain ⟨rfl, rfl, rfl⟩ := hcs
    exact ⟨[], rfl, Nat.le_refl _, ⟨rfl, by decide, fun h => absurd h (by decide)⟩⟩
  · simp only [List.cons.injEq, Value.slice.injEq, and_true] at hcs
    obtain ⟨rfl, rfl, rfl⟩ := hcs
    have hlm : len ≤ m := by rw [hmm]; split <;> omega
    obtain ⟨q, hq⟩ := choose_lt (α := Bool) (n := len) (p := fun i b => w.cell? (ad.add i) = some (.bool b)) (fun i hi => by
      obtain ⟨h1, h2⟩ := hx i (by omega)
      obtain ⟨b, hb2, -⟩ := DataW.trod_bool Try.underlying4 h2
      have hV : V i = .bool b := by simpa using hb2
      exact ⟨b, by rw [h1, hV]⟩)
    have hlen : ((List.range len).map q).length = len := by simp
    refine ⟨(List.range len).map q, hlen.symm, by rw [hlen]; exact hl, ⟨rfl, by rw [hlen]; unfold maxLen at hm; omega, fun _ => ⟨ad, rfl, fun j p hp => ⟨[.bool p], rfl, rfl, fun i u hu => ?_⟩⟩⟩⟩
    have hj : j < len := by have := (List.getElem?_eq_some_iff.1 hp).1; rwa [hlen] at this
    obtain rfl : q j = p := by simpa [hj] using hp
    cases i with
    | zero =>
      obtain rfl : Value.bool (q j) = u := by simpa using hu
      rw [show Kd.bool.sz = 1 from rfl, Nat.mul_one, Nat.add_zero]
      exact hq j hj
    | succ i => simp at hu
end
end Go.Proofs.Ytihecimbhhlhaaa.Rl
