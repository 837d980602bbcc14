/- Blocks of a world: what lies in them behind an allocation, a store, a call. -/
import Derived.Below
import Derived.OwnWalk
import Derived.Laws.Rows
import Derived.Laws.AppendOwn
import Derived.Deep.MidRow
import Derived.Deep.Upon
import Derived.Lib.Hide
import Derived.RowKit3
namespace Go.Proofs.Ytieoklpgnmbpjaa.Dr
open Go Go.RowKit
set_option linter.unusedVariables false
set_option linter.unusedSimpArgs false
theorem below_alloc {w W : World} (h : Below w.heap.size w W) (o : Obj) : Below w.heap.size w (W.alloc o) := h.alloc h.size o
theorem below_step {w W w2 : World} (h : Below w.heap.size w W) (k : Below W.heap.size W w2) : Below w.heap.size w w2 := h.trans (k.mono h.size)
theorem below_set {w W : World} {g j : Nat} {v : Value} (h : Below w.heap.size w W) (hg : w.heap.size ≤ g) : Below w.heap.size w (W.setCell ⟨g, j, none⟩ v) := h.setCell hg _
theorem blk_lt {w : World} {g : Nat} {o : Obj} (h : w.heap[g]? = some o) : g < w.heap.size := (Array.getElem?_eq_some_iff.1 h).1
theorem blk_cell {w : World} {g : Nat} {t : TypeId} {cs : Array Value} (h : w.heap[g]? = some (.cells cs t (0, 0))) (i : Nat) : w.cell? ⟨g, i, none⟩ = cs[i]? := cell_of_row w g i cs t (0, 0) h
theorem blk_frozen {w : World} {g : Nat} {t : TypeId} {cs : Array Value} (h : w.heap[g]? = some (.cells cs t (0, 0))) (i : Nat) : w.frozen? ⟨g, i, none⟩ = false := by simp [World.frozen?, h]
theorem blk_alloc {w : World} {g : Nat} {o : Obj} (h : w.heap[g]? = some o) (o' : Obj) : (w.alloc o').heap[g]? = some o := (Below.heap_alloc w o' g (blk_lt h)).trans h
theorem blk_below {w w1 : World} {g : Nat} {o : Obj} (h : w.heap[g]? = some o) (hb : Below w.heap.size w w1) : w1.heap[g]? = some o := (hb.block g (blk_lt h)).trans h
theorem blk_new (w : World) (o : Obj) : (w.alloc o).heap[w.heap.size]? = some o := heap_alloc_new w o
theorem blk_far {w : World} {g : Nat} {o : Obj} (h : w.heap[g]? = some o) {p : Addr} (hp : g ≠ p.block) (u : Value) : (w.setCell p u).heap[g]? = some o := (Below.heap_setCell w p u g hp).trans h
theorem blk_put {w : World} {g : Nat} {t : TypeId} {cs cs' : Array Value} (h : w.heap[g]? = some (.cells cs t (0, 0))) (i : Nat) (u : Value) (e : cs.setIfInBounds i u = cs') : (w.setCell ⟨g, i, none⟩ u).heap[g]? = some (.cells cs' t (0, 0)) := by
  subst e
  simp [World.setCell, Array.getElem?_modify, h]
/-- A whole row is stored. -/
def putAt (cs : Array Value) : Nat → List Value → Array Value
  | _, [] => cs
  | o, v :: r => putAt (cs.setIfInBounds o v) (o + 1) r
theorem putAt_size : ∀ (r : List Value) (cs : Array Value) (o : Nat), (putAt cs o r).size = cs.size
  | [], _, _ => rfl
  | v :: r, cs, o => by rw [putAt, putAt_size r, Array.size_setIfInBounds]
theorem putAt_get : ∀ (r : List Value) (cs : Array Value) (o i : Nat), o + r.length ≤ cs.size → (putAt cs o r)[i]? = if o ≤ i ∧ i < o + r.length then r[i - o]? else cs[i]?
  | [], cs, o, i, h => by rw [putAt, if_neg (by simp only [List.length_nil]; omega)]
  | v :: r, cs, o, i, h => by
    simp only [List.length_cons] at h
    rw [putAt, putAt_get r _ (o + 1) i (by rw [Array.size_setIfInBounds]; omega)]
    by_cases h1 : o + 1 ≤ i ∧ i < o + 1 + r.length
    · rw [if_pos h1, if_pos (by simp only [List.length_cons]; omega), show i - o = (i - (o + 1)) + 1 by omega, List.getElem?_cons_succ]
    · rw [if_neg h1]
      by_cases h2 : i = o
      · subst h2
        rw [if_pos (by simp only [List.length_cons]; omega), Nat.sub_self, List.getElem?_cons_zero]
        exact Array.getElem?_setIfInBounds_self_of_lt (by omega)
      · rw [if_neg (by simp only [List.length_cons]; omega), Array.getElem?_setIfInBounds_ne (Ne.symm h2)]
theorem putAt_all (cs : Array Value) (l : List Value) (h : l.length = cs.size) : putAt cs 0 l = l.toArray := by
  apply Array.ext_getElem?
  intro i
  rw [putAt_get l cs 0 i (by omega)]
  by_cases hi : i < l.length
  · rw [if_pos ⟨Nat.zero_le _, by omega⟩]; simp
  · rw [if_neg (by omega), Array.getElem?_eq_none (by omega)]
    simp
    omega
theorem blk_puts' : ∀ (l : List Value) (o : Nat) (w : World) (g : Nat) (t : TypeId) (cs : Array Value), w.heap[g]? = some (.cells cs t (0, 0)) → (w.setCells g o l).heap[g]? = some (.cells (putAt cs o l) t (0, 0))
  | [], _, _, _, _, _, h => h
  | v :: r, o, w, g, t, cs, h => blk_puts' r (o + 1) _ g t _ (blk_put h o v rfl)
theorem blk_puts {w : World} {g : Nat} {t : TypeId} {cs cs' : Array Value} (h : w.heap[g]? = some (.cells cs t (0, 0))) (hs : cs'.size = cs.size) : (w.setCells g 0 cs'.toList).heap[g]? = some (.cells cs' t (0, 0)) := by
  have := blk_puts' cs'.toList 0 w g t cs h
  rw [putAt_all _ _ (by simpa using hs)] at this
  simpa using this
theorem blk_puts_far {w : World} {g k o : Nat} {b : Obj} {l : List Value} (h : w.heap[k]? = some b) (hk : k ≠ g) : (w.setCells g o l).heap[k]? = some b :=
  (World.heap_setCells_other w g o l (blk_lt h) hk).trans h
theorem below_sets : ∀ (l : List Value) (o : Nat) (w W : World) (g : Nat), Below w.heap.size w W → w.heap.size ≤ g → Below w.heap.size w (W.setCells g o l)
  | [], _, _, _, _, h, _ => h
  | v :: r, o, w, W, g, h, hg => below_sets r (o + 1) w _ g (below_set h hg) hg
theorem blk_there {w : World} {g : Nat} {t : TypeId} {cs : Array Value} (h : w.heap[g]? = some (.cells cs t (0, 0))) : w.there g 0 cs.size := fun j hj =>
  ⟨by rw [Nat.zero_add, blk_cell h j]; simp [hj], by rw [Nat.zero_add]; exact blk_frozen h j⟩
section
variable {P : Program}
theorem results_c {fn : Func} {p : Tmp} {ty : TypeId} (h : fn.results = #[.cell p ty]) (tmps : Array Value) (w : World) (g : Nat) (t : TypeId) (cs : Array Value) (fr : Nat × Nat) (d : TypeDesc)
    (hp : tmps.getD p undef = .pointer (some ⟨g, 0, none⟩)) (hg : w.heap[g]? = some (.cells cs t fr))
    (hu : P.underlying ty = some d) (hd : (match d with | .struct _ | .array _ _ => true | _ => false) = true) (hi : (P.info? ty).map (·.size) = some cs.size) :
    (results fn tmps).run P w = .ok (.agg cs) w := by
  have hp' : tmps[p]?.getD undef = .pointer (some ⟨g, 0, none⟩) := by simpa using hp
  simp [results, h, hp', asAddr, run_loadVar_row w g t ty cs fr d hg hu hd hi]
theorem results_ct {fn : Func} {p u : Tmp} {ty : TypeId} (h : fn.results = #[.cell p ty, .tmp u]) (tmps : Array Value) (w : World) (g : Nat) (t : TypeId) (cs : Array Value) (fr : Nat × Nat) (d : TypeDesc)
    (hp : tmps.getD p undef = .pointer (some ⟨g, 0, none⟩)) (hg : w.heap[g]? = some (.cells cs t fr))
    (hu : P.underlying ty = some d) (hd : (match d with | .struct _ | .array _ _ => true | _ => false) = true) (hi : (P.info? ty).map (·.size) = some cs.size) :
    (results fn tmps).run P w = .ok (.tuple #[.agg cs, tmps.getD u undef]) w := by
  have hp' : tmps[p]?.getD undef = .pointer (some ⟨g, 0, none⟩) := by simpa using hp
  simp [results, h, hp', asAddr, run_loadVar_row w g t ty cs fr d hg hu hd hi]
/-- A load out of the midst of a block. -/
theorem ld_mid {W : World} {g o : Nat} {cs : Array Value} {t0 : TypeId} (l : List Value) (t : TypeId) (d : TypeDesc) (h : W.heap[g]? = some (.cells cs t0 (0, 0))) (hl : ∀ (j : Nat) (v : Value), l[j]? = some v → cs[o + j]? = some v) (hu : P.underlying t = some d) (hd : d.isRow = true) (hi : (P.info? t).map (·.size) = some l.length) : (loadVar t ⟨g, o, none⟩).run P W = .ok (.agg l.toArray) W :=
  run_loadVar_mid W g o t l d (fun j v hv => (blk_cell h (o + j)).trans (hl j v hv)) hu hd hi
/-- A load of a whole block. -/
theorem ld_all {W : World} {g : Nat} {cs : Array Value} {t0 : TypeId} (t : TypeId) (d : TypeDesc) (h : W.heap[g]? = some (.cells cs t0 (0, 0))) (hu : P.underlying t = some d) (hd : (match d with | .struct _ | .array _ _ => true | _ => false) = true) (hi : (P.info? t).map (·.size) = some cs.size) : (loadVar t ⟨g, 0, none⟩).run P W = .ok (.agg cs) W :=
  run_loadVar_row W g t0 t cs (0, 0) d h hu hd hi
end
/-- A measure that simp leaves alone. -/
def Msr (c : Int) (v : Value) : Nat := (c - intOf v).toNat
theorem Msr.lt {c a : Int} (h : a < c) : Msr c (.int .i64 (a + 1)) < Msr c (.int .i64 a) := by
  unfold Msr
  simp only [intOf]
  omega
theorem ownsRow_below {W W' : World} {b : Nat} {e : TypeId} {z n : Nat} {v : Value} {xs : List Value} (h : W.ownsRow b e z v n xs) (hb : Below W.heap.size W W') : W'.ownsRow b e z v n xs := by
  refine ⟨h.1, h.2.imp id ?_⟩
  rintro ⟨g, cap, cur, h1, h2, h3, h4⟩
  exact ⟨g, cap, cur, h1, h2, blk_below h3 hb, h4⟩
theorem ownsRow_base {W : World} {b : Nat} {e : TypeId} {z n : Nat} {v : Value} {xs : List Value} (h : W.ownsRow b e z v n xs) : ∀ k, v.ownBlock = some k → b ≤ k := by
  intro k hk
  rcases h.2 with ⟨rfl, _⟩ | ⟨g, cap, cur, rfl, h2, _⟩
  · cases hk
  · have : g = k := by simpa [Value.ownBlock] using hk
    omega
theorem ownsRow_slice {W : World} {b : Nat} {e : TypeId} {z n : Nat} {v : Value} {xs : List Value} (h : W.ownsRow b e z v n xs) : ∃ a c, v = .slice a n c := by
  rcases h.2 with ⟨rfl, h0⟩ | ⟨g, cap, cur, rfl, _⟩
  · exact ⟨none, 0, by rw [h0]⟩
  · exact ⟨_, _, rfl⟩
end Go.Proofs.Ytieoklpgnmbpjaa.Dr
