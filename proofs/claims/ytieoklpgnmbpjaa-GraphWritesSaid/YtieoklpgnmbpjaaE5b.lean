/- A call of the reader among loads. -/
import Derived.Test.YtieoklpgnmbpjaaE5
import Derived.Test.YtieoklpgnmbpjaaDr2
namespace Go.Proofs.Ytieoklpgnmbpjaa.Gr
open Go.RowKit Dr
set_option linter.unusedVariables false
/-- The reader's state before and behind operation j; besides, the block of type t at gc is as it was. -/
def GD (b g j : Nat) (s s' : List Int × Int) (W3 : World) (d : Nat → Bool) (W : World) : Prop := (if d j = true then RD W b g s' else RD W b g s) ∧ W3.grownBy W (some g) ∧ b ≤ g ∧ g < W3.heap.size
theorem GD_other {b g j k : Nat} {s s' : List Int × Int} {W3 W : World} {d : Nat → Bool} (h : GD b g j s s' W3 d W) (hk : k ≠ j) : GD b g j s s' W3 (upD d k) W := by
  unfold GD upD at *
  rw [if_neg (Ne.symm hk)]
  exact h
theorem GD_alloc {b g j k : Nat} {s s' : List Int × Int} {W3 W : World} {d : Nat → Bool} (h : GD b g j s s' W3 d W) (hk : k ≠ j) (o : Obj) : GD b g j s s' W3 (upD d k) (W.alloc o) := by
  have hB : Below W.heap.size W (W.alloc o) := below_alloc (Below.refl _ _) o
  have := GD_other h hk
  obtain ⟨h1, h2, h3, h4⟩ := this
  have hl : g < W.heap.size := Nat.lt_of_lt_of_le h4 h2.size
  refine ⟨?_, grown_trans h2 (grown_below hB _), h3, h4⟩
  split at h1
  · rename_i e
    rw [if_pos e]
    exact RD_step h1 (hB.mono (by omega)) (hB.block g hl)
  · rename_i e
    rw [if_neg e]
    exact RD_step h1 (hB.mono (by omega)) (hB.block g hl)
theorem GD_call {b g j : Nat} {s s' : List Int × Int} {W3 W : World} {d : Nat → Bool} (h : GD b g j s s' W3 d W) (hd : d j = false) : RD W b g s := by
  have := h.1
  rw [hd] at this
  simpa using this
theorem GD_done {b g j : Nat} {s s' : List Int × Int} {W3 W W' : World} {d : Nat → Bool} (h : GD b g j s s' W3 d W) (hr : RD W' b g s') (hg : W.grownBy W' (some g)) : GD b g j s s' W3 (upD d j) W' := by
  unfold GD upD
  rw [if_pos rfl]
  exact ⟨hr, grown_trans h.2.1 hg, h.2.2⟩
/-- How the world turns in such a region. -/
def RG (b g : Nat) (s' : List Int × Int) (W W' : World) : Prop := W.grownBy W' (some g) ∧ (RD W b g s' → RD W' b g s')
theorem RG_refl (b g : Nat) (s' : List Int × Int) (W : World) : RG b g s' W W := ⟨grown_refl _ _, id⟩
theorem RG_alloc {b g j : Nat} {s s' : List Int × Int} {W3 W : World} {d : Nat → Bool} (h : GD b g j s s' W3 d W) (o : Obj) : RG b g s' W (W.alloc o) :=
  have hB : Below W.heap.size W (W.alloc o) := below_alloc (Below.refl _ _) o
  have hl : g < W.heap.size := Nat.lt_of_lt_of_le h.2.2.2 h.2.1.size
  ⟨grown_below hB _, fun h1 => RD_step h1 (hB.mono (by have := h.2.2.1; omega)) (hB.block g hl)⟩
def callS (b g : Nat) (s' : List Int × Int) (val : Value) : DSpec (RG b g s') := ⟨fun v W => v = val ∧ RD W b g s', fun _ _ _ h hr => ⟨h.1, hr.2 h.2⟩⟩
def newR (b g : Nat) (s' : List Int × Int) (cs : Array Value) (t : TypeId) : DSpec (RG b g s') := ⟨fun v W => ∃ gg, v = .slice (some ⟨gg, 0, none⟩) 1 1 ∧ W.heap[gg]? = some (.cells cs t (0, 0)) ∧ g < gg, fun _ _ _ ⟨gg, h1, h2, h3⟩ hr => ⟨gg, h1, (hr.1.block gg (blk_lt h2) (fun e => by injection e with e; omega)).trans h2, h3⟩⟩
theorem RG_new {b g j : Nat} {s s' : List Int × Int} {W3 W : World} {d : Nat → Bool} (h : GD b g j s s' W3 d W) : g < W.heap.size := Nat.lt_of_lt_of_le h.2.2.2 h.2.1.size
theorem C_one {k : IntKind} {W : World} {gg : Nat} {x : Int} {t : TypeId} (h : W.heap[gg]? = some (.cells #[.int k x] t (0, 0))) : (Go.Proofs.YtieoklpgnmbpjaaW.PrintWords.Kd.int k).C W (some ⟨gg, 0, none⟩) 1 [x] := by
  refine ⟨rfl, by decide, fun _ => ⟨_, rfl, fun j p hj => ?_⟩⟩
  have : j = 0 := by have := (List.getElem?_eq_some_iff.1 hj).1; simp at this; omega
  subst this
  obtain rfl : x = p := by simpa using hj
  refine ⟨[.int k x], rfl, rfl, fun i u hu => ?_⟩
  have : i = 0 := by have := (List.getElem?_eq_some_iff.1 hu).1; simp at this; omega
  subst this
  obtain rfl : Value.int k x = u := by simpa using hu
  exact (blk_cell h 0).trans rfl
end Go.Proofs.Ytieoklpgnmbpjaa.Gr
