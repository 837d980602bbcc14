/- Items, Find: plain facts; the lists that the laws' lives looks at. -/
import Derived.Test.YtihecimbhhlhaaaRl8
import Derived.Test.YtihecimbhhlhaaaRsPintlelaw13Items
import Derived.Test.YtihecimbhhlhaaaRsG7
namespace Go.Proofs.Ytihecimbhhlhaaa.Rl
open Go.RowKit Dr PRs
open Go.Proofs.YtihecimbhhlhaaaW.PrintWords (Kd Kd.C Kd.R Kd.C_below Kd.C_get Kd.R_below Kd.R_reads Kd.R_reads' Kd.R_types Kd.R_step Kd.R_alloc Kd.R_drew Kd.R_lower add_field)
set_option linter.unusedVariables false
set_option linter.unusedSimpArgs false
set_option maxRecDepth 100000
def okx (x : S34) : Prop := In64 x.f2 ∧ In32 x.f1.f4
theorem w64 (n : Int) (h : -1000000000 ≤ n ∧ n ≤ 1000000000) : wrap64 n = n := by unfold wrap64; omega
theorem rd48 {l : List S48} {i : Nat} (h : i < l.length) : rd_T48 l (i : Int) ∈ l := by
 unfold rd_T48
 rw [Int.toNat_natCast, List.getD_eq_getElem?_getD, List.getElem?_eq_getElem h]
 exact List.getElem_mem h
theorem items_go (l : List S48) (hl : ∀ y ∈ l, okx y.f1) : ∀ k : Nat,
 (∀ (out : List S34) (i : Nat), i ≤ 24 → out.length ≤ 4000 → (∀ x ∈ out, okx x) → 6 * (25 - i) + (4000 - out.length) ≤ k → ∃ r, l13I.l0 k l out i = some r ∧ r.length ≤ 4000 ∧ ∀ x ∈ r, okx x) ∧
 (∀ (out : List S34) (i j : Nat) (n : Int), i < 24 → i < l.length → j ≤ out.length → out.length ≤ 4000 → (∀ x ∈ out, okx x) → 6 * (24 - i) + (4000 - out.length) + 1 ≤ k → ∃ r, l13I.l1 k l out i n j = some r ∧ r.length ≤ 4000 ∧ ∀ x ∈ r, okx x) := by
 intro k
 induction k using Nat.strongRecOn with
 | _ k ih =>
  refine ⟨fun out i hi ho hx hk => ?_, fun out i j n hi hil hj ho hx hk => ?_⟩
  · obtain ⟨k, rfl⟩ : ∃ m, k = m + 5 := ⟨k - 5, by omega⟩
    have done : l13I.j1 (k + 4) l out i false = some out := by
     simp only [l13I.j1]
     rw [if_neg (by decide)]
    simp only [l13I.l0]
    by_cases c : (i : Int) < (l.length : Int)
    · rw [if_pos c]
      by_cases d : (i : Int) < 24
      · rw [decide_eq_true d]
        have step : ∀ n : Int, ∃ r, l13I.j3 (k + 2) l out i n = some r ∧ r.length ≤ 4000 ∧ ∀ x ∈ r, okx x := fun n => by
         simp only [l13I.j3]
         exact (ih (k + 1) (by omega)).2 out i 0 n (by omega) (by omega) (by omega) ho hx (by omega)
        have step2 : ∀ (n : Int) (b : Bool), ∃ r, l13I.j2 (k + 3) l out i n b = some r ∧ r.length ≤ 4000 ∧ ∀ x ∈ r, okx x := fun n b => by
         simp only [l13I.j2]
         split
         · exact step 1
         · exact step n
        simp only [l13I.j1]
        rw [if_pos trivial, if_pos (by omega), if_pos c]
        split
        · exact step2 _ _
        · exact step2 _ _
      · rw [decide_eq_false d]
        exact ⟨out, done, ho, hx⟩
    · rw [if_neg c]
      exact ⟨out, done, ho, hx⟩
  · obtain ⟨k, rfl⟩ : ∃ m, k = m + 1 := ⟨k - 1, by omega⟩
    have next : ∃ r, l13I.l0 k l out (wrap64 ((i : Int) + 1)) = some r ∧ r.length ≤ 4000 ∧ ∀ x ∈ r, okx x := by
     rw [w64 _ (by omega)]
     exact (ih k (by omega)).1 out (i + 1) (by omega) ho hx (by omega)
    simp only [l13I.l1]
    by_cases c : (j : Int) < n
    · rw [if_pos c]
      by_cases d : (out.length : Int) < 4000
      · rw [if_pos d, if_pos (by omega), if_pos (by omega), if_pos (by omega)]
        have e : wrap64 ((j : Int) + 1) = ((j + 1 : Nat) : Int) := by rw [w64 _ (by omega)]; rfl
        rw [e]
        refine (ih k (by omega)).2 (out ++ [(rd_T48 l i).f1]) i (j + 1) n hi hil (by simp; omega) (by simp; omega) (fun x hx2 => ?_) (by simp; omega)
        rcases List.mem_append.1 hx2 with h | h
        · exact hx x h
        · obtain rfl := List.mem_singleton.1 h
          exact hl _ (rd48 hil)
      · rw [if_neg d]
        exact next
    · rw [if_neg c]
      exact next
theorem items_is (l : List S48) (hl : ∀ y ∈ l, okx y.f1) : ∃ r, l13I.f 4200 l = some r ∧ r.length ≤ 4000 ∧ ∀ x ∈ r, okx x :=
 (items_go l hl 4200).1 [] 0 (by omega) (by simp) (fun _ h => by cases h) (by simp)
theorem find_go (l : List S34) (key : Int) (hl : l.length ≤ 4000) (hu : uniq l l.length) : ∀ (d i : Nat), i + d = l.length → d13F.l0 (2 * d + 1) l key ((lab l i key).getD (-1)) i = some ((lab l l.length key).getD (-1))
 | 0, i, h => by
  obtain rfl : i = l.length := by omega
  simp only [d13F.l0]
  rw [if_neg (by omega)]
 | d + 1, i, h => by
  have hx : rd_T34 l (i : Int) = l.getD i z34 := by unfold rd_T34; rw [Int.toNat_natCast]
  have e : wrap64 ((i : Int) + 1) = ((i + 1 : Nat) : Int) := by rw [w64 _ (by omega)]; rfl
  have ih := find_go l key hl hu d (i + 1) (by omega)
  have no : ¬ ((l.getD i z34).f0 = 2 ∧ (l.getD i z34).f2 = key) → d13F.j1 (2 * d + 2) l key ((lab l i key).getD (-1)) i false = some ((lab l l.length key).getD (-1)) := fun q => by
   simp only [d13F.j1]
   rw [if_neg (by decide), e]
   have : lab l (i + 1) key = lab l i key := by simp only [lab]; rw [if_neg q]
   rw [← this]
   exact ih
  show d13F.l0 (2 * d + 2 + 1) _ _ _ _ = _
  simp only [d13F.l0]
  rw [if_pos (by omega), if_pos (by omega), hx]
  by_cases c : (l.getD i z34).f0 = 2
  · rw [if_pos c]
    by_cases q : (l.getD i z34).f2 = key
    · rw [beq_iff_eq.mpr q]
      simp only [d13F.j1]
      rw [if_pos trivial]
      cases hj : lab l i key with
      | some j =>
       obtain ⟨i', -, h1, h2, h3⟩ := lab_in hj
       exact absurd (hu i' i h1 (by omega) h2 c (h3.trans q.symm)) id
      | none =>
       rw [if_neg (by simp), e]
       have : lab l (i + 1) key = some (i : Int) := by simp only [lab]; rw [if_pos ⟨c, q⟩]
       rw [this] at ih
       exact ih
    · rw [beq_eq_false_iff_ne.mpr q]
      exact no (fun h => q h.2)
  · rw [if_neg c]
    exact no (fun h => c h.1)
theorem find_is (l : List S34) (key : Int) (hl : l.length ≤ 4000) (hu : uniq l l.length) (hs : (lab l l.length key).isSome = true) : d13F.f (2 * l.length + 1) l key = some (at_ l key : Int) := by
 have h := find_go l key hl hu l.length 0 (by omega)
 unfold d13F.f
 have e : ((lab l l.length key).getD (-1)) = (at_ l key : Int) := by
  rw [← at_is]
  cases hj : lab l l.length key with
  | none => rw [hj] at hs; cases hs
  | some j => rfl
 rw [← e]
 exact h
/-! ### what lives looks at -/
def lbI : S34 := ⟨2, ⟨0, 0, 0, 0, 0⟩, 7⟩
def npI : S34 := ⟨1, ⟨19, 0, 0, 0, 0⟩, 0⟩
def brI : S34 := ⟨3, ⟨36, 0, 0, 0, 0⟩, 7⟩
def some3 (m : Nat) : List S48 := [⟨0, lbI⟩, ⟨(m : Int), npI⟩, ⟨0, brI⟩]
def X (m : Nat) : List S34 := lbI :: (List.replicate m npI ++ [brI])
end Go.Proofs.Ytihecimbhhlhaaa.Rl
