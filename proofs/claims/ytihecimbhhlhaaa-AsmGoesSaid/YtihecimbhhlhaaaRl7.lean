/- The rounds of Layout: plain facts. -/
import Derived.Test.YtihecimbhhlhaaaRl6
namespace Go.Proofs.Ytihecimbhhlhaaa.Rl
open Go.RowKit Dr PRs
open Go.Proofs.YtihecimbhhlhaaaW.PrintWords (Kd Kd.C Kd.R Kd.C_below Kd.C_get Kd.R_below Kd.R_reads Kd.R_reads' Kd.R_types Kd.R_step Kd.R_alloc Kd.R_drew Kd.R_lower add_field)
set_option linter.unusedVariables false
set_option linter.unusedSimpArgs false
set_option maxRecDepth 100000
/-- How far an item's label lies off. -/
def off (l : List S34) (far : Nat → Bool) (i : Nat) : Int := beg l far (at_ l (l.getD i z34).f2) - beg l far i
/-- A branch that does not reach its label. -/
def bad (l : List S34) (far : Nat → Bool) (i : Nat) : Bool := ((l.getD i z34).f0 == 3) && !(decide (-4096 ≤ off l far i ∧ off l far i ≤ 4094))
/-- All branches that are not far reach. -/
def good (l : List S34) (far : Nat → Bool) : Prop := ∀ i, i < l.length → (l.getD i z34).f0 = 3 → far i = false → -4096 ≤ off l far i ∧ off l far i ≤ 4094
def nx (l : List S34) (far : Nat → Bool) (m : Nat) : Nat → Bool := fun j => far j || (decide (j < m) && bad l far j)
def chg (l : List S34) (far : Nat → Bool) : Nat → Bool
 | 0 => false
 | m + 1 => chg l far m || (!far m && bad l far m)
/-- What is known of those that are far. -/
def FI (l : List S34) (far : Nat → Bool) : Prop := (∀ i, far i = true → i < l.length ∧ (l.getD i z34).f0 = 3) ∧ ∀ far', good l far' → ∀ i, far i = true → far' i = true
theorem FI_none (l : List S34) : FI l (fun _ => false) := ⟨fun i h => (nomatch h), fun _ _ i h => (nomatch h)⟩
theorem sz_mono (x : S34) {a b : Bool} (h : a = true → b = true) : sz x a ≤ sz x b := by
 unfold sz
 by_cases h1 : x.f0 = 2
 · simp only [if_pos h1]; omega
 · simp only [if_neg h1]
   by_cases h2 : x.f0 = 5
   · simp only [if_pos h2]; omega
   · simp only [if_neg h2]
     cases a with
     | true => rw [h rfl]; exact Int.le_refl _
     | false => cases b <;> decide
theorem beg_mono (l : List S34) {f g : Nat → Bool} (h : ∀ i, f i = true → g i = true) (a : Nat) : ∀ k : Nat, 0 ≤ beg l f (a + k) - beg l f a ∧ beg l f (a + k) - beg l f a ≤ beg l g (a + k) - beg l g a
 | 0 => by simp
 | k + 1 => by
  have ih := beg_mono l h a k
  have h1 := sz_mono (l.getD (a + k) z34) (h (a + k))
  have h2 := sz_in (l.getD (a + k) z34) (f (a + k))
  have e1 : beg l f (a + (k + 1)) = beg l f (a + k) + sz (l.getD (a + k) z34) (f (a + k)) := rfl
  have e2 : beg l g (a + (k + 1)) = beg l g (a + k) + sz (l.getD (a + k) z34) (g (a + k)) := rfl
  omega
theorem FI_step {l : List S34} {far : Nat → Bool} (h : FI l far) : FI l (nx l far l.length) := by
 refine ⟨fun i hi => ?_, fun far' hg i hi => ?_⟩
 · unfold nx at hi
   rw [Bool.or_eq_true, Bool.and_eq_true] at hi
   rcases hi with hi | hi
   · exact h.1 i hi
   · refine ⟨of_decide_eq_true hi.1, ?_⟩
     have := hi.2
     unfold bad at this
     rw [Bool.and_eq_true] at this
     exact eq_of_beq this.1
 · have hle := h.2 far' hg
   unfold nx at hi
   rw [Bool.or_eq_true, Bool.and_eq_true] at hi
   rcases hi with hi | hi
   · exact hle i hi
   · have hil : i < l.length := of_decide_eq_true hi.1
     have hb := hi.2
     unfold bad at hb
     rw [Bool.and_eq_true] at hb
     have hk := eq_of_beq hb.1
     cases hf : far' i with
     | true => rfl
     | false =>
      have hw := hg i hil hk hf
      have hn : ¬ (-4096 ≤ off l far i ∧ off l far i ≤ 4094) := by
       intro hh
       rw [decide_eq_true hh] at hb
       exact absurd hb.2 (by decide)
      exfalso
      apply hn
      unfold off at hw ⊢
      generalize at_ l (l.getD i z34).f2 = a at hw ⊢
      by_cases ha : i ≤ a
      · have := beg_mono l hle i (a - i)
        rw [show i + (a - i) = a by omega] at this
        omega
      · have := beg_mono l hle a (i - a)
        rw [show a + (i - a) = i by omega] at this
        omega
theorem chg_none {l : List S34} {far : Nat → Bool} : ∀ {m : Nat}, chg l far m = false → ∀ j, j < m → bad l far j = true → far j = true
 | 0, _, j, hj, _ => absurd hj (by omega)
 | m + 1, h, j, hj, hb => by
  simp only [chg, Bool.or_eq_false_iff] at h
  by_cases e : j = m
  · subst e
    cases hf : far j with
    | true => rfl
    | false => rw [hf, hb] at h; exact absurd h.2 (by decide)
  · exact chg_none h.1 j (by omega) hb
theorem chg_some {l : List S34} {far : Nat → Bool} : ∀ {m : Nat}, chg l far m = true → ∃ j, j < m ∧ far j = false ∧ bad l far j = true
 | 0, h => by cases h
 | m + 1, h => by
  simp only [chg, Bool.or_eq_true] at h
  rcases h with h | h
  · obtain ⟨j, h1, h2⟩ := chg_some h
    exact ⟨j, by omega, h2⟩
  · rw [Bool.and_eq_true] at h
    exact ⟨m, by omega, by simpa using h.1, h.2⟩
theorem nx_done {l : List S34} {far : Nat → Bool} (h : chg l far l.length = false) : nx l far l.length = far ∧ good l far := by
 have hn := chg_none h
 refine ⟨?_, fun i hi hk hf => ?_⟩
 · funext j
   unfold nx
   cases hf : far j with
   | true => rfl
   | false =>
    cases hb : bad l far j with
    | false => simp
    | true =>
     by_cases hj : j < l.length
     · rw [hn j hj hb] at hf; cases hf
     · simp [hj]
 · cases hb : bad l far i with
   | true => rw [hn i hi hb] at hf; cases hf
   | false =>
    unfold bad at hb
    rw [hk] at hb
    simpa using hb
/-- How many are not far. -/
def unf (far : Nat → Bool) : Nat → Nat
 | 0 => 0
 | n + 1 => unf far n + (if far n = true then 0 else 1)
theorem unf_le {f g : Nat → Bool} (h : ∀ i, f i = true → g i = true) : ∀ n, unf g n ≤ unf f n
 | 0 => Nat.le_refl _
 | n + 1 => by
  have ih := unf_le h n
  have h3 : (if g n = true then 0 else 1) ≤ (if f n = true then 0 else 1) := by
   by_cases q : f n = true
   · rw [if_pos q, if_pos (h n q)]; exact Nat.le_refl _
   · rw [if_neg q]; split <;> omega
  simp only [unf]
  omega
theorem unf_lt {f g : Nat → Bool} (h : ∀ i, f i = true → g i = true) : ∀ {n j : Nat}, j < n → f j = false → g j = true → unf g n < unf f n
 | 0, _, hj, _, _ => absurd hj (by omega)
 | n + 1, j, hj, h1, h2 => by
  simp only [unf]
  by_cases e : j = n
  · subst e
    have := unf_le h j
    rw [h1, h2]
    simp
    omega
  · have ih := unf_lt h (n := n) (j := j) (by omega) h1 h2
    have h3 : (if g n = true then 0 else 1) ≤ (if f n = true then 0 else 1) := by
     by_cases q : f n = true
     · rw [if_pos q, if_pos (h n q)]; exact Nat.le_refl _
     · rw [if_neg q]; split <;> omega
    omega
theorem nx_le (l : List S34) (far : Nat → Bool) (m : Nat) : ∀ i, far i = true → nx l far m i = true := fun i h => by
 unfold nx
 rw [h]
 rfl
theorem unf_nx {l : List S34} {far : Nat → Bool} (h : chg l far l.length = true) : unf (nx l far l.length) l.length < unf far l.length := by
 obtain ⟨j, h1, h2, h3⟩ := chg_some h
 refine unf_lt (nx_le l far l.length) h1 h2 ?_
 unfold nx
 rw [h3, decide_eq_true h1]
 simp
theorem nx_skip {l : List S34} {far : Nat → Bool} {m : Nat} (h : (!far m && bad l far m) = false) : nx l far (m + 1) = nx l far m ∧ chg l far (m + 1) = chg l far m := by
 refine ⟨?_, by simp [chg, h]⟩
 funext j
 unfold nx
 by_cases e : j = m
 · subst e
   cases hf : far j with
   | true => rfl
   | false =>
    rw [hf] at h
    have hb : bad l far j = false := by simpa using h
    rw [hb]
    simp
 · have : decide (j < m + 1) = decide (j < m) := by
    by_cases q : j < m
    · rw [decide_eq_true q, decide_eq_true (by omega)]
    · rw [decide_eq_false q, decide_eq_false (by omega)]
   rw [this]
def bset (f : Nat → Bool) (i : Nat) : Nat → Bool := fun j => if j = i then true else f j
theorem nx_put {l : List S34} {far : Nat → Bool} {m : Nat} (h : (!far m && bad l far m) = true) : nx l far (m + 1) = bset (nx l far m) m ∧ chg l far (m + 1) = true := by
 refine ⟨?_, by simp only [chg, h, Bool.or_true]⟩
 rw [Bool.and_eq_true] at h
 funext j
 unfold nx bset
 by_cases e : j = m
 · subst e
   rw [if_pos rfl, h.2, decide_eq_true (Nat.lt_succ_self _)]
   simp
 · rw [if_neg e]
   have : decide (j < m + 1) = decide (j < m) := by
    by_cases q : j < m
    · rw [decide_eq_true q, decide_eq_true (by omega)]
    · rw [decide_eq_false q, decide_eq_false (by omega)]
   rw [this]
/-- Bools in a block. -/
def boolA (far : Nat → Bool) (n : Nat) : Array Value := ((List.range n).map fun i => Value.bool (far i)).toArray
theorem boolA_size (far : Nat → Bool) (n : Nat) : (boolA far n).size = n := by simp [boolA]
theorem boolA_get (far : Nat → Bool) {n i : Nat} (h : i < n) : (boolA far n)[i]? = some (.bool (far i)) := by simp [boolA, h]
theorem boolA_put (far : Nat → Bool) {n i : Nat} (h : i < n) : (boolA far n).setIfInBounds i (.bool true) = boolA (bset far i) n := by
 apply Array.ext_getElem?
 intro j
 rw [Array.getElem?_setIfInBounds]
 by_cases hj : j < n
 · by_cases hij : i = j
   · subst hij
     rw [if_pos rfl, if_pos (by rw [boolA_size]; exact h), boolA_get _ h]
     simp [bset]
   · rw [if_neg hij, boolA_get _ hj, boolA_get _ hj]
     simp [bset, Ne.symm hij]
 · rw [if_neg (by omega), Array.getElem?_eq_none (by rw [boolA_size]; omega), Array.getElem?_eq_none (by rw [boolA_size]; omega)]
def isTrueV : Value → Bool
 | .bool true => true
 | _ => false
/-- How many Bools of the row v are not true. -/
def unfV (v : Value) (W : World) : Nat := match v with
 | .slice (some ad) _ _ => match W.heap[ad.block]? with
  | some (.cells cs _ _) => (cs.toList.filter fun v => !isTrueV v).length
  | _ => 0
 | _ => 0
theorem unf_cells (far : Nat → Bool) : ∀ n, ((boolA far n).toList.filter fun v => !isTrueV v).length = unf far n
 | 0 => rfl
 | n + 1 => by
  have ih := unf_cells far n
  unfold boolA at ih ⊢
  simp only [] at ih ⊢
  rw [List.range_succ, List.map_append, List.filter_append, List.length_append, ih]
  simp only [unf]
  cases hf : far n <;> simp [hf, isTrueV]
theorem unfV_is {W : World} {g n c t m : Nat} {far : Nat → Bool} (h : W.heap[g]? = some (.cells (boolA far n) t (0, 0))) : unfV (.slice (some ⟨g, 0, none⟩) m c) W = unf far n := by
 unfold unfV
 simp only []
 rw [h]
 exact unf_cells far n
theorem C_of_blk {W : World} {g n : Nat} {far : Nat → Bool} (h : W.heap[g]? = some (.cells (boolA far n) 4 (0, 0))) (hn : n ≤ 4000) : Kd.C Kd.bool W (some ⟨g, 0, none⟩) n (farL far n) := by
 refine ⟨farL_len far n, by omega, fun _ => ⟨_, rfl, fun j p hp => ⟨[.bool p], rfl, rfl, fun i u hu => ?_⟩⟩⟩
 have hj : j < n := by
  have := (List.getElem?_eq_some_iff.1 hp).1
  rwa [farL_len] at this
 have hpj : p = far j := by
  unfold farL at hp
  simp [hj] at hp
  exact hp.symm
 cases i with
 | zero =>
  obtain rfl : Value.bool p = u := by simpa using hu
  have e : (Addr.add ⟨g, 0, none⟩ (j * 1 + 0)) = ⟨g, j, none⟩ := by rw [Nat.mul_one, Nat.add_zero, Addr.add_mid, Nat.zero_add]
  rw [show Kd.bool.sz = 1 from rfl, e, blk_cell h j, boolA_get far hj, hpj]
 | succ i => simp at hu
theorem mk26 (W : World) (n : Nat) (hn : n ≤ 4000) : (Instr.makeSlice 26 (.int .i64 (n : Int)) (.int .i64 (n : Int))).run Try.prog W = .ok (.slice (some ⟨W.heap.size, 0, none⟩) n n) (W.alloc (.cells (boolA (fun _ => false) n) 4)) := by
 have info4 : (Try.prog.info? 4).map (fun i => (i.zero, i.size, i.bytes)) = some (some (.bool false), 1, 1) := by kernel_rfl
 obtain ⟨i0, hi, hz⟩ := Option.map_eq_some_iff.1 info4
 simp only [Prod.mk.injEq] at hz
 have hr := run_make (P := Try.prog) W 26 4 i0 (.bool false) Try.underlying26 hi hz.1 .i64 .i64 (n : Int) (n : Int) (by omega) (Int.le_refl _) (by rw [hz.2.2]; omega) (by omega)
 simp only [Int.toNat_natCast] at hr
 rw [hr, hz.2.1]
 congr 2
 congr 1
 unfold madeCells boolA
 apply Array.ext_getElem?
 intro j
 by_cases hj : j < n
 · simp [hj, Value.cells, Nat.mod_one]
 · simp [hj]
theorem mapIs_setCell {W : World} {b m g i : Nat} {f : Int → Option Int} {u : Value} (h : mapIs W b m f) (hb : b ≠ g) : mapIs (W.setCell ⟨g, i, none⟩ u) b m f := mapIs_same h (Below.heap_setCell W ⟨g, i, none⟩ u b hb)
theorem ints_setCell {W : World} {g k i : Nat} {v u : Value} {l : List Int} {cs : Array Value} (h : Kd.R (Kd.int .i64) 3 W g (fun _ => True) v l) (hk : W.heap[k]? = some (.cells cs 4 (0, 0))) : Kd.R (Kd.int .i64) 3 (W.setCell ⟨k, i, none⟩ u) g (fun _ => True) v l :=
 Go.Proofs.YtihecimbhhlhaaaW.PrintWords.Kd.R_set h hk (fun q hq => by
  rw [show (Kd.int .i64).E = [] from rfl] at hq
  have := List.mem_singleton.1 hq
  omega) i u
end Go.Proofs.Ytihecimbhhlhaaa.Rl
