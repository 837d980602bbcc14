/- Plain facts for RelaxLeast: the document's Places; choices. -/
import Derived.Test.YtihecimbhhlhaaaRlF
import Derived.Test.YtihecimbhhlhaaaRsPintleref13Places
namespace Go.Proofs.Ytihecimbhhlhaaa.Rl
open Go.RowKit Dr PRs
open Go.Proofs.YtihecimbhhlhaaaW.PrintWords (Kd Kd.C Kd.R Kd.C_below Kd.C_get Kd.R_below Kd.R_reads Kd.R_reads' Kd.R_types Kd.R_step Kd.R_alloc Kd.R_drew Kd.R_lower add_field)
set_option linter.unusedVariables false
set_option linter.unusedSimpArgs false
set_option maxRecDepth 100000
theorem set_ref (k : Nat) (hk : 5 ≤ k) (rd n : Int) (h : In32 n) : d12S.f k rd n = some (Pure.setL rd n) :=
 Go.Proofs.YtihecimbhhlhaaaW.PrintWords.at_rounds (g := fun k => d12S.f k rd n) (fun k => d12S.mono rd n k) hk (Pure.ref_is rd n h.1 h.2)
theorem rd_far {far : Nat → Bool} {n i : Nat} (h : i < n) : Go.Proofs.YtihecimbhhlhaaaW.PrintWords.rdOf false (farL far n) (i : Int) = far i := by
 unfold Go.Proofs.YtihecimbhhlhaaaW.PrintWords.rdOf farL
 simp [List.getD, h]
theorem places_go (l : List S34) (far : Nat → Bool) (hl : l.length ≤ 4000) (hk : ∀ i, i < l.length → far i = true → (l.getD i z34).f0 = 3) (hI : ∀ x ∈ l, In32 x.f1.f4) : ∀ (d i : Nat), i + d = l.length → d13P.l0 (2 * d + 7) l (farL far l.length) (begs l far i) (beg l far i) i = some (begs l far (l.length + 1))
 | 0, i, h => by
  obtain rfl : i = l.length := by omega
  simp only [d13P.l0, Nat.mul_zero, Nat.zero_add]
  rw [if_neg (by omega), if_pos (by rw [begs_len]; omega), begs_succ]
 | d + 1, i, h => by
  have ih := places_go l far hl hk hI d (i + 1) (by omega)
  have hil : i < l.length := by omega
  have hx : rd_T34 l (i : Int) = l.getD i z34 := by unfold rd_T34; rw [Int.toNat_natCast]
  have hm : l.getD i z34 ∈ l := by
   rw [List.getD_eq_getElem?_getD, List.getElem?_eq_getElem hil]
   exact List.getElem_mem hil
  have e : wrap64 ((i : Int) + 1) = ((i + 1 : Nat) : Int) := by rw [w64 _ (by omega)]; rfl
  have hb := beg_in l far i
  have hsl := Pure.setL_length (l.getD i z34).f1.f1 (l.getD i z34).f1.f4
  have hfar := rd_far (far := far) hil
  have eb : beg l far (i + 1) = beg l far i + sz (l.getD i z34) (far i) := rfl
  have hlen : ((farL far l.length).length : Int) = l.length := by rw [farL_len]
  have key : ∀ x8 : Int, (far i = false → (l.getD i z34).f0 ≠ 5 → sz (l.getD i z34) (far i) = x8) → 0 ≤ x8 ∧ x8 ≤ 4 → d13P.j1 (2 * d + 8) l (farL far l.length) (begs l far (i + 1)) (beg l far i) i x8 = some (begs l far (l.length + 1)) := fun x8 h8 hx8 => by
   have fin : ∀ y : Int, sz (l.getD i z34) (far i) = y → 0 ≤ y ∧ y ≤ 8 → d13P.l0 (2 * d + 7) l (farL far l.length) (begs l far (i + 1)) (wrap64 (beg l far i + y)) (wrap64 ((i : Int) + 1)) = some (begs l far (l.length + 1)) := fun y hy hy8 => by
    rw [e, w64 _ (by omega), ← hy, ← eb]
    exact ih
   have f8 : far i = true → sz (l.getD i z34) (far i) = 8 := fun q => by
    have h3 := hk i hil q
    unfold sz
    rw [if_neg (by omega), if_neg (by omega), if_pos q]
   show d13P.j1 (2 * d + 7 + 1) _ _ _ _ _ _ = _
   simp only [d13P.j1]
   rw [if_pos (by omega), if_pos (by omega), hx, hfar, hlen]
   by_cases c : (l.getD i z34).f0 = 5
   · rw [if_pos c, set_ref _ (by omega) _ _ (hI _ hm)]
     simp only [Option.bind_some]
     rw [if_pos (by omega)]
     cases q : far i with
     | true =>
      have := hk i hil q
      omega
     | false =>
      rw [if_neg (by decide), w64 (4 * _) (by omega)]
      exact fin _ (by unfold sz; rw [if_neg (by omega), if_pos c]) (by omega)
   · rw [if_neg c, if_pos (by omega)]
     cases q : far i with
     | true =>
      rw [if_pos rfl]
      exact fin 8 (f8 q) (by omega)
     | false =>
      rw [if_neg (by decide)]
      exact fin x8 (h8 q c) (by omega)
  show d13P.l0 (2 * d + 8 + 1) _ _ _ _ _ = _
  simp only [d13P.l0]
  rw [if_pos (by omega), if_pos (by rw [begs_len]; omega), begs_succ]
  simp only [Option.bind_some]
  rw [if_pos (by omega), hx]
  by_cases c : (l.getD i z34).f0 = 2
  · rw [if_pos c]
    exact key 0 (fun _ _ => by unfold sz; rw [if_pos c]) (by omega)
  · rw [if_neg c]
    exact key 4 (fun q q5 => by unfold sz; rw [if_neg c, if_neg q5, if_neg (by rw [q]; decide)]) (by omega)
theorem places_ref (l : List S34) (far : Nat → Bool) (hl : l.length ≤ 4000) (hk : ∀ i, i < l.length → far i = true → (l.getD i z34).f0 = 3) (hI : ∀ x ∈ l, In32 x.f1.f4) : d13P.f (2 * l.length + 7) l (farL far l.length) = some (begs l far (l.length + 1)) := places_go l far hl hk hI l.length 0 (by omega)
/-- How many branches are among the first m. -/
def cnt (l : List S34) : Nat → Nat
 | 0 => 0
 | m + 1 => cnt l m + (if (l.getD m z34).f0 = 3 then 1 else 0)
theorem cnt_le (l : List S34) : ∀ m, cnt l m ≤ m
 | 0 => Nat.le_refl _
 | m + 1 => by
  have := cnt_le l m
  simp only [cnt]
  split <;> omega
/-- The branches that are let be far, up to m. -/
def fch (l : List S34) (lc : List Bool) (m : Nat) : Nat → Bool := fun j => decide (j < m) && ((l.getD j z34).f0 == 3) && lc.getD (cnt l j) false
def bput (f : Nat → Bool) (i : Nat) (v : Bool) : Nat → Bool := fun j => if j = i then v else f j
section
open Go.ChangeShapes Go.WideShapes Go.Deep
variable {H : Type} {enc : TypeId × Value → H} {w : World} {base : Nat} {spare : Nat → Bool} {held : Bool}
end
end Go.Proofs.Ytihecimbhhlhaaa.Rl
