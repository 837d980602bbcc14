/- Items, Find: plain facts; the lists that the laws' lives looks at. -/
import Derived.Test.YtihecimbhhlhaaaRl8
import Derived.Test.YtihecimbhhlhaaaRsPintlelaw13Items
import Derived.Test.YtihecimbhhlhaaaRsPintleref13Find
namespace Go.Proofs.Ytihecimbhhlhaaa.Rl
open Go.RowKit Dr PRs
open Go.Proofs.YtihecimbhhlhaaaW.PrintWords (Kd Kd.C Kd.R Kd.C_below Kd.C_get Kd.R_below Kd.R_reads Kd.R_reads' Kd.R_types Kd.R_step Kd.R_alloc Kd.R_drew Kd.R_lower add_field)
set_option linter.unusedVariables false
set_option linter.unusedSimpArgs false
set_option maxRecDepth 100000

def okx (x : S34) : Prop := In64 x.f2 ∧ In32 x.f1.f4
theorem w64 (n : Int) (h : -1000000000 ≤ n ∧ n ≤ 1000000000) : wrap64 n = n := by unfold wrap64; omega
theorem rd48 {l : List S48} {i : Nat} (h : i < l.length) : rd_T48 l (i : Int) ∈ l := by
  unfold rd_T48
  rw [Int.toNat_natCast, List.getD_eq_getElem?_getD, List.getElem?_eq_getElem h]
  exact List.getElem_mem h
theorem items_go (l : List S48) (hl : ∀ y ∈ l, okx y.f1) : ∀ k : Nat,
    (∀ (out : List S34) (i : Nat), i ≤ 24 → out.length ≤ 4000 → (∀ x ∈ out, okx x) → 6 * (25 - i) + (4000 - out.length) ≤ k → ∃ r, pintlelaw13_Items.l0 k l out i = some r ∧ r.length ≤ 4000 ∧ ∀ x ∈ r, okx x) ∧
    (∀ (out : List S34) (i j : Nat) (n : Int), i < 24 → i < l.length → j ≤ out.length → out.length ≤ 4000 → (∀ x ∈ out, okx x) → 6 * (24 - i) + (4000 - out.length) + 1 ≤ k → ∃ r, pintlelaw13_Items.l1 k l out i n j = some r ∧ r.length ≤ 4000 ∧ ∀ x ∈ r, okx x) := by
  intro k
  induction k using Nat.strongRecOn with
  | _ k ih =>
    refine ⟨fun out i hi ho hx hk => ?_, fun out i j n hi hil hj ho hx hk => ?_⟩
    · obtain ⟨k, rfl⟩ : ∃ m, k = m + 5 := ⟨k - 5, by omega⟩
      have done : pintlelaw13_Items.j1 (k + 4) l out i false = some out := by
        simp only [pintlelaw13_Items.j1]
        rw [if_neg (by decide)]
      simp only [pintlelaw13_Items.l0]
      by_cases c : (i : Int) < (l.length : Int)
      · rw [if_pos c]
        by_cases d : (i : Int) < 24
        · rw [decide_eq_true d]
          have step : ∀ n : Int, ∃ r, pintlelaw13_Items.j3 (k + 2) l out i n = some r ∧ r.length ≤ 4000 ∧ ∀ x ∈ r, okx x := fun n => by
            simp only [pintlelaw13_Items.j3]
            exact (ih (k + 1) (by omega)).2 out i 0 n (by omega) (by omega) (by omega) ho hx (by omega)
          have step2 : ∀ (n : Int) (b : Bool), ∃ r, pintlelaw13_Items.j2 (k + 3) l out i n b = some r ∧ r.length ≤ 4000 ∧ ∀ x ∈ r, okx x := fun n b => by
            simp only [pintlelaw13_Items.j2]
            split
            · exact step 1
            · exact step n
          simp only [pintlelaw13_Items.j1]
          rw [if_pos trivial, if_pos (by omega), if_pos c]
          split
          · exact step2 _ _
          · exact step2 _ _
        · rw [decide_eq_false d]
          exact ⟨out, done, ho, hx⟩
      · rw [if_neg c]
        exact ⟨out, done, ho, hx⟩
    · obtain ⟨k, rfl⟩ : ∃ m, k = m + 1 := ⟨k - 1, by omega⟩
      have next : ∃ r, pintlelaw13_Items.l0 k l out (wrap64 ((i : Int) + 1)) = some r ∧ r.length ≤ 4000 ∧ ∀ x ∈ r, okx x := by
        rw [w64 _ (by omega)]
        exact (ih k (by omega)).1 out (i + 1) (by omega) ho hx (by omega)
      simp only [pintlelaw13_Items.l1]
      by_cases c : (j : Int) < n
      · rw [if_pos c]
        by_cases d : (out.length : Int) < 4000
        · rw [if_pos d, if_pos (by omega), if_pos (by omega), if_pos (by omega)]
          have e : wrap64 ((j : Int) + 1) = ((j + 1 : Nat) : Int) := by rw [w64 _ (by omega)]; rfl
          rw [e]
          refine (ih k (by omega)).2 (out ++ [(rd_T48 l i).f1]) i (j + 1) n hi hil (by simp; omega) (by simp; omega) (fun x hx2 => ?_) (by simp; omega)
          rcases List.mem_append.1 hx2 with h | h
          · exact hx x h
          · obtain rfl := List.mem_singleton.1 h
            exact hl _ (rd48 hil)
        · rw [if_neg d]
          exact next
      · rw [if_neg c]
        exact next
theorem items_is (l : List S48) (hl : ∀ y ∈ l, okx y.f1) : ∃ r, pintlelaw13_Items.f 4200 l = some r ∧ r.length ≤ 4000 ∧ ∀ x ∈ r, okx x :=
  (items_go l hl 4200).1 [] 0 (by omega) (by simp) (fun _ h => by cases h) (by simp)
theorem find_go (l : List S34) (key : Int) (hl : l.length ≤ 4000) (hu : uniq l l.length) : ∀ (d i : Nat), i + d = l.length → pintleref13_Find.l0 (2 * d + 1) l key ((lab l i key).getD (-1)) i = some ((lab l l.length key).getD (-1))
  | 0, i, h => by
    obtain rfl : i = l.length := by omega
    simp only [pintleref13_Find.l0]
    rw [if_neg (by omega)]
  | d + 1, i, h => by
    have hx : rd_T34 l (i : Int) = l.getD i z34 := by unfold rd_T34; rw [Int.toNat_natCast]
    have e : wrap64 ((i : Int) + 1) = ((i + 1 : Nat) : Int) := by rw [w64 _ (by omega)]; rfl
    have ih := find_go l key hl hu d (i + 1) (by omega)
    have no : ¬ ((l.getD i z34).f0 = 2 ∧ (l.getD i z34).f2 = key) → pintleref13_Find.j1 (2 * d + 2) l key ((lab l i key).getD (-1)) i false = some ((lab l l.length key).getD (-1)) := fun q => by
      simp only [pintleref13_Find.j1]
      rw [if_neg (by decide), e]
      have : lab l (i + 1) key = lab l i key := by simp only [lab]; rw [if_neg q]
      rw [← this]
      exact ih
    show pintleref13_Find.l0 (2 * d + 2 + 1) _ _ _ _ = _
    simp only [pintleref13_Find.l0]
    rw [if_pos (by omega), if_pos (by omega), hx]
    by_cases c : (l.getD i z34).f0 = 2
    · rw [if_pos c]
      by_cases q : (l.getD i z34).f2 = key
      · rw [beq_iff_eq.mpr q]
        simp only [pintleref13_Find.j1]
        rw [if_pos trivial]
        cases hj : lab l i key with
        | some j =>
          obtain ⟨i', -, h1, h2, h3⟩ := lab_in hj
          exact absurd (hu i' i h1 (by omega) h2 c (h3.trans q.symm)) id
        | none =>
          rw [if_neg (by simp), e]
          have : lab l (i + 1) key = some (i : Int) := by simp only [lab]; rw [if_pos ⟨c, q⟩]
          rw [this] at ih
          exact ih
      · rw [beq_eq_false_iff_ne.mpr q]
        exact no (fun h => q h.2)
    · rw [if_neg c]
      exact no (fun h => c h.1)
theorem find_is (l : List S34) (key : Int) (hl : l.length ≤ 4000) (hu : uniq l l.length) (hs : (lab l l.length key).isSome = true) : pintleref13_Find.f (2 * l.length + 1) l key = some (at_ l key : Int) := by
  have h := find_go l key hl hu l.length 0 (by omega)
  unfold pintleref13_Find.f
  have e : ((lab l l.length key).getD (-1)) = (at_ l key : Int) := by
    rw [← at_is]
    cases hj : lab l l.length key with
    | none => rw [hj] at hs; cases hs
    | some j => rfl
  rw [← e]
  exact h

/-! ### what lives looks at -/
def lbI : S34 := ⟨2, ⟨0, 0, 0, 0, 0⟩, 7⟩
def npI : S34 := ⟨1, ⟨19, 0, 0, 0, 0⟩, 0⟩
def brI : S34 := ⟨3, ⟨36, 0, 0, 0, 0⟩, 7⟩
def some3 (m : Nat) : List S48 := [⟨0, lbI⟩, ⟨(m : Int), npI⟩, ⟨0, brI⟩]
def X (m : Nat) : List S34 := lbI :: (List.replicate m npI ++ [brI])
theorem X_len (m : Nat) : (X m).length = m + 2 := by simp [X]
theorem items_in (l : List S48) (i : Nat) (n : Int) (hil : i < l.length) : ∀ (d j k : Nat) (out : List S34), n = ((j + d : Nat) : Int) → out.length + d < 4000 → j + d ≤ 4000 →
    pintlelaw13_Items.l1 (k + d + 1) l out i n j = pintlelaw13_Items.l0 k l (out ++ List.replicate d (rd_T48 l i).f1) (wrap64 ((i : Int) + 1))
  | 0, j, k, out, h, _, _ => by
    simp only [pintlelaw13_Items.l1, Nat.add_zero]
    rw [if_neg (by omega)]
    simp
  | d + 1, j, k, out, h, h1, h2 => by
    show pintlelaw13_Items.l1 (k + d + 1 + 1) _ _ _ _ _ = _
    simp only [pintlelaw13_Items.l1]
    rw [if_pos (by omega), if_pos (by omega), if_pos (by omega), if_pos (by omega), if_pos (by omega)]
    have e : wrap64 ((j : Int) + 1) = ((j + 1 : Nat) : Int) := by rw [w64 _ (by omega)]; rfl
    rw [e]
    have := items_in l i n hil d (j + 1) k (out ++ [(rd_T48 l i).f1]) (by rw [h]; congr 1; omega) (by simp; omega) (by omega)
    refine this.trans ?_
    rw [List.replicate_succ, List.append_assoc]
    rfl
theorem items_X (m : Nat) (h0 : 1 ≤ m) (hm : m ≤ 2000) : pintlelaw13_Items.f (m + 16 + 6) (some3 m) = some (X m) := by
  unfold pintlelaw13_Items.f
  have hl : (some3 m).length = 3 := rfl
  -- the label
  have s0 : pintlelaw13_Items.l0 (m + 16 + 6) (some3 m) [] 0 = pintlelaw13_Items.l1 (m + 15 + 1 + 1 + 1) (some3 m) [] (0 : Nat) 1 (0 : Nat) := by
    have r : rd_T48 (some3 m) 0 = ⟨0, lbI⟩ := rfl
    show pintlelaw13_Items.l0 (m + 17 + 1 + 1 + 1 + 1 + 1) _ _ _ = _
    simp only [pintlelaw13_Items.l0, pintlelaw13_Items.j1, pintlelaw13_Items.j2, pintlelaw13_Items.j3, hl, r]
    rfl
  have s1 : pintlelaw13_Items.l0 (m + 16) (some3 m) [lbI] ((1 : Nat) : Int) = pintlelaw13_Items.l1 (11 + m + 1) (some3 m) [lbI] (1 : Nat) (m : Int) (0 : Nat) := by
    have r : rd_T48 (some3 m) 1 = ⟨(m : Int), npI⟩ := rfl
    show pintlelaw13_Items.l0 (m + 12 + 1 + 1 + 1 + 1) _ _ _ = _
    have e : ¬ ((m : Int) < 1) := by omega
    simp only [pintlelaw13_Items.l0, pintlelaw13_Items.j1, pintlelaw13_Items.j2, pintlelaw13_Items.j3, hl, r, show (((1 : Nat) : Int)) = 1 from rfl]
    simp [npI, e]
    rw [show m + 12 = 11 + m + 1 by omega]
  have s2 : pintlelaw13_Items.l0 11 (some3 m) (lbI :: List.replicate m npI) ((2 : Nat) : Int) = pintlelaw13_Items.l1 (5 + 1 + 1) (some3 m) (lbI :: List.replicate m npI) (2 : Nat) 1 (0 : Nat) := by
    have r : rd_T48 (some3 m) 2 = ⟨0, brI⟩ := rfl
    show pintlelaw13_Items.l0 (7 + 1 + 1 + 1 + 1) _ _ _ = _
    simp only [pintlelaw13_Items.l0, pintlelaw13_Items.j1, pintlelaw13_Items.j2, pintlelaw13_Items.j3, hl, r, show (((2 : Nat) : Int)) = 2 from rfl]
    rfl
  have s3 : pintlelaw13_Items.l0 5 (some3 m) (X m) ((3 : Nat) : Int) = some (X m) := by
    simp only [pintlelaw13_Items.l0, pintlelaw13_Items.j1, hl, show (((3 : Nat) : Int)) = 3 from rfl]
    rfl
  rw [s0, items_in (some3 m) 0 1 (by rw [hl]; decide) 1 0 (m + 16) [] rfl (by simp) (by omega)]
  have w1 : wrap64 (((0 : Nat) : Int) + 1) = ((1 : Nat) : Int) := by rw [w64 _ (by omega)]; rfl
  rw [w1]
  show pintlelaw13_Items.l0 (m + 16) (some3 m) [lbI] ((1 : Nat) : Int) = _
  rw [s1, items_in (some3 m) 1 (m : Int) (by rw [hl]; decide) m 0 11 [lbI] (by simp) (by simp; omega) (by omega)]
  have w2 : wrap64 (((1 : Nat) : Int) + 1) = ((2 : Nat) : Int) := by rw [w64 _ (by omega)]; rfl
  rw [w2]
  show pintlelaw13_Items.l0 11 (some3 m) (lbI :: List.replicate m npI) ((2 : Nat) : Int) = _
  rw [s2, items_in (some3 m) 2 1 (by rw [hl]; decide) 1 0 5 _ rfl (by simp; omega) (by omega)]
  have w3 : wrap64 (((2 : Nat) : Int) + 1) = ((3 : Nat) : Int) := by rw [w64 _ (by omega)]; rfl
  rw [w3]
  exact s3
theorem X_okx (m : Nat) : ∀ x ∈ X m, okx x := by
  intro x hx
  have h : x = lbI ∨ x = npI ∨ x = brI := by
    unfold X at hx
    rcases List.mem_cons.1 hx with h | h
    · exact .inl h
    · rcases List.mem_append.1 h with h | h
      · exact .inr (.inl (List.eq_of_mem_replicate h))
      · exact .inr (.inr (List.mem_singleton.1 h))
  rcases h with rfl | rfl | rfl <;> (unfold okx In64 In32; decide)
theorem X_zero (m : Nat) : (X m).getD 0 z34 = lbI := rfl
theorem X_mid (m i : Nat) (h : i < m) : (X m).getD (i + 1) z34 = npI := by
  simp [X, List.getD, List.getElem?_append, h]
theorem X_last (m : Nat) : (X m).getD (m + 1) z34 = brI := by
  simp [X, List.getD, List.getElem?_append]
theorem X_cases (m i : Nat) (h : i < (X m).length) : (i = 0 ∧ (X m).getD i z34 = lbI) ∨ (0 < i ∧ i ≤ m ∧ (X m).getD i z34 = npI) ∨ (i = m + 1 ∧ (X m).getD i z34 = brI) := by
  rw [X_len] at h
  by_cases h0 : i = 0
  · subst h0; exact .inl ⟨rfl, rfl⟩
  · obtain ⟨j, rfl⟩ : ∃ j, i = j + 1 := ⟨i - 1, by omega⟩
    by_cases h1 : j < m
    · exact .inr (.inl ⟨by omega, by omega, X_mid m j h1⟩)
    · obtain rfl : j = m := by omega
      exact .inr (.inr ⟨rfl, X_last _⟩)
theorem X_at (m : Nat) : at_ (X m) 7 = 0 ∧ (lab (X m) (X m).length 7).isSome = true := by
  have h : ∀ n, lab (X m) (n + 1) 7 = some 0 ∨ n + 1 > (X m).length := by
    intro n
    induction n with
    | zero => left; rfl
    | succ n ih =>
      by_cases hn : n + 1 < (X m).length
      · left
        simp only [lab]
        rcases X_cases m (n + 1) hn with ⟨h, -⟩ | ⟨-, -, h⟩ | ⟨-, h⟩
        · omega
        · rw [h, if_neg (by decide)]
          rcases ih with h | h
          · exact h
          · omega
        · rw [h, if_neg (by decide)]
          rcases ih with h | h
          · exact h
          · omega
      · right; omega
  have h2 := h (m + 1)
  have hl := X_len m
  rcases h2 with h2 | h2
  · unfold at_
    rw [hl]
    rw [h2]
    exact ⟨rfl, rfl⟩
  · omega
theorem may3 : mayB lbI = true ∧ mayB npI = true ∧ mayB brI = true := by decide +kernel
theorem X_ok (m : Nat) : okL (X m) := by
  refine ⟨fun i hi => ?_, fun i j hij hj h1 h2 _ => ?_, fun i hi hn => ?_⟩
  · rcases X_cases m i hi with ⟨-, h⟩ | ⟨-, -, h⟩ | ⟨-, h⟩ <;> rw [h]
    · exact may3.1
    · exact may3.2.1
    · exact may3.2.2
  · rcases X_cases m j hj with ⟨h, -⟩ | ⟨-, -, h⟩ | ⟨-, h⟩
    · omega
    · rw [h] at h2; exact absurd h2 (by decide)
    · rw [h] at h2; exact absurd h2 (by decide)
  · rcases X_cases m i hi with ⟨-, h⟩ | ⟨-, -, h⟩ | ⟨-, h⟩
    · rw [h] at hn; exact absurd hn (by decide)
    · rw [h] at hn; exact absurd hn (by decide)
    · rw [h]; exact (X_at m).2
theorem X_beg (m : Nat) (far : Nat → Bool) (hf : ∀ i, i ≤ m → far i = false) : ∀ k, k ≤ m → beg (X m) far (k + 1) = 4 * k
  | 0, _ => by
    show beg (X m) far 0 + sz _ _ = _
    rw [X_zero]
    rfl
  | k + 1, h => by
    have ih := X_beg m far hf k (by omega)
    show beg (X m) far (k + 1) + sz _ _ = _
    rw [ih, X_mid m k (by omega), hf _ (by omega)]
    show 4 * (k : Int) + 4 = _
    omega
theorem X_off (m : Nat) (far : Nat → Bool) (hf : ∀ i, i ≤ m → far i = false) : off (X m) far (m + 1) = - (4 * m) := by
  unfold off
  rw [X_last, show brI.f2 = 7 from rfl, (X_at m).1, X_beg m far hf m (Nat.le_refl _)]
  show (0 : Int) - _ = _
  omega
theorem X_far {m : Nat} {far : Nat → Bool} (hFI : FI (X m) far) (i : Nat) (h : i ≤ m) : far i = false := by
  cases hf : far i with
  | false => rfl
  | true =>
    obtain ⟨h1, h2⟩ := hFI.1 i hf
    rcases X_cases m i h1 with ⟨-, h3⟩ | ⟨-, -, h3⟩ | ⟨h3, -⟩
    · rw [h3] at h2; exact absurd h2 (by decide)
    · rw [h3] at h2; exact absurd h2 (by decide)
    · omega
theorem far_near {far : Nat → Bool} (hFI : FI (X 1024) far) : far 1025 = false := by
  cases hf : far 1025 with
  | false => rfl
  | true =>
    have h := hFI.2 (fun _ => false) (fun i hi hk _ => by
      rcases X_cases 1024 i hi with ⟨-, h3⟩ | ⟨-, -, h3⟩ | ⟨h3, -⟩
      · rw [h3] at hk; exact absurd hk (by decide)
      · rw [h3] at hk; exact absurd hk (by decide)
      · rw [h3, X_off 1024 (fun _ => false) (fun _ _ => rfl)]; decide) 1025 hf
    cases h
theorem far_far {far : Nat → Bool} (hFI : FI (X 1025) far) (hg : good (X 1025) far) : far 1026 = true := by
  cases hf : far 1026 with
  | true => rfl
  | false =>
    have h := hg 1026 (by rw [X_len]; decide) (by rw [X_last]; rfl) hf
    rw [show (1026 : Nat) = 1025 + 1 from rfl, X_off 1025 far (X_far hFI)] at h
    exact absurd h.1 (by decide)
end Go.Proofs.Ytihecimbhhlhaaa.Rl
