/- What the instructions of Set and of Add do to the registers; each of them can be a word. -/
import Derived.Test.YteglbikbnlebpaaPd6
namespace Go.Proofs.Yteglbikbnlebpaa.Pd
open Go.RowKit PPs _root_.Go.Proofs.Yteglbikbnlebpaa.Pure ImmPlain Go.Proofs.YteglbikbnlebpaaW.PrintWords
set_option linter.unusedVariables false
set_option linter.unusedSimpArgs false

theorem r42 : lo 42 = 55 ∧ th 42 = 0 ∧ sv 42 = 0 ∧ fm 42 = 4 ∧ hd 42 = true ∧ ha 42 = false ∧ Pure.hb 42 = false ∧ hs 42 = false := by decide +kernel
theorem r19 : lo 19 = 19 ∧ fm 19 = 1 ∧ hd 19 = true ∧ ha 19 = true ∧ Pure.hb 19 = false ∧ hs 19 = false := by decide +kernel
theorem r1 : lo 1 = 51 ∧ fm 1 = 0 ∧ hd 1 = true ∧ ha 1 = true ∧ Pure.hb 1 = true ∧ hs 1 = false := by decide +kernel
theorem ok42 (rd m : Int) (h : 0 ≤ rd ∧ rd < 32) (hm : m % 4096 = 0) (h0 : -2147483648 ≤ m) (h1 : m ≤ 2147483647) : okI 42 rd 0 0 m = true := by
  obtain ⟨-, -, -, e1, e2, e3, e4, e5⟩ := r42
  rw [(okI_in 42 rd 0 0 m (by decide) (by decide)).1]
  unfold okV immOk
  rw [e1, e2, e3, e4, e5]
  have hg : getN 4 (putN 4 (m % 4294967296)) = m := by rw [getN_4, putN_4]; unfold g4 p4; split <;> omega
  unfold putR
  rw [if_neg (by decide), if_neg (by decide), if_pos ⟨by decide, by decide, hg⟩]
  simp
  omega
theorem ok19 (rd rs m : Int) (h : 0 ≤ rd ∧ rd < 32) (hr : 0 ≤ rs ∧ rs < 32) (h0 : -2048 ≤ m) (h1 : m ≤ 2047) : okI 19 rd rs 0 m = true := by
  obtain ⟨-, e1, e2, e3, e4, e5⟩ := r19
  rw [(okI_in 19 rd rs 0 m (by decide) (by decide)).1]
  unfold okV immOk
  rw [e1, e2, e3, e4, e5]
  have hg : getN 1 (putN 1 (m % 4294967296)) = m := by rw [getN_1, putN_1]; unfold g1 p1; split <;> omega
  unfold putR
  rw [if_neg (by decide), if_neg (by decide), if_pos ⟨by decide, by decide, hg⟩]
  simp
  omega
theorem ok1 (rd rs by_ : Int) (h : 0 ≤ rd ∧ rd < 32) (hr : 0 ≤ rs ∧ rs < 32) (hb' : 0 ≤ by_ ∧ by_ < 32) : okI 1 rd rs by_ 0 = true := by
  obtain ⟨-, e1, e2, e3, e4, e5⟩ := r1
  rw [(okI_in 1 rd rs by_ 0 (by decide) (by decide)).1]
  unfold okV immOk
  rw [e1, e2, e3, e4, e5]
  rw [if_neg (by decide), if_pos rfl]
  simp
  omega
def okX (x : S38) : Prop := okI x.f0 x.f1 x.f2 x.f3 x.f4 = true
theorem can1 (k : Nat) (x : S38) (h : okX x) : inst_Can.f (k + 12) x.f0 x.f1 x.f2 x.f3 x.f4 = some true := by
  obtain ⟨y, hy, -⟩ := word_is k x.f0 x.f1 x.f2 x.f3 x.f4
  unfold inst_Can.f
  rw [hy, obind]
  show some _ = some true
  rw [h]
theorem can_loop (l : List S38) (hl : l.length ≤ 1000) (hF : ∀ x ∈ l, okX x) : ∀ (d i : Nat), i ≤ l.length → l.length - i = d → pintlelaw12_can.l0 (d + 13) l i = some true
  | 0, i, h0, h1 => by
    simp only [pintlelaw12_can.l0]
    rw [if_neg (by omega)]
  | d + 1, i, h0, h1 => by
    have hlt : i < l.length := by omega
    have hx : rd_T38 l i = l[i] := by simp [rd_T38, List.getD, hlt]
    simp only [pintlelaw12_can.l0, show d + 1 + 13 = d + 1 + 12 + 1 from rfl]
    rw [if_pos (by omega), if_pos (by omega), hx, can1 (d + 1) _ (hF _ (List.getElem_mem hlt)), obind, if_pos rfl]
    have hw : wrap64 ((i : Int) + 1) = ((i + 1 : Nat) : Int) := by unfold wrap64; omega
    rw [hw]
    exact can_loop l hl hF d (i + 1) (by omega) (by omega)
theorem can_is (l : List S38) (hl : l.length ≤ 1000) (hF : ∀ x ∈ l, okX x) : pintlelaw12_can.f (l.length + 13) l = some true := can_loop l hl hF l.length 0 (by omega) (by omega)

theorem set_in (rd : Nat) (n : Int) (h : 1 ≤ rd ∧ rd ≤ 31) (hn : -2147483648 ≤ n ∧ n ≤ 2147483647) : ∀ x ∈ setL rd n, Fine x ∧ okX x := by
  have e : ¬ ((rd : Int) < 1 ∨ 31 < (rd : Int)) := by omega
  have w : (wrap32 (n - ((n + 2048) % 4096 - 2048))) % 4096 = 0 ∧ -2147483648 ≤ wrap32 (n - ((n + 2048) % 4096 - 2048)) ∧ wrap32 (n - ((n + 2048) % 4096 - 2048)) ≤ 2147483647 := by unfold wrap32; omega
  have f42 := ok42 (rd : Int) _ (by omega) w.1 w.2.1 w.2.2
  intro x hx
  unfold setL at hx
  rw [if_neg e] at hx
  split at hx
  · obtain rfl := List.mem_singleton.1 hx
    refine ⟨⟨.inr (.inl rfl), ?_, ?_, ?_⟩, ok19 _ _ _ ?_ ?_ ?_ ?_⟩ <;> (try dsimp only) <;> omega
  · split at hx
    · obtain rfl := List.mem_singleton.1 hx
      refine ⟨⟨.inl rfl, ?_, ?_, ?_⟩, f42⟩ <;> (try dsimp only) <;> omega
    · rcases List.mem_cons.1 hx with rfl | hx
      · refine ⟨⟨.inl rfl, ?_, ?_, ?_⟩, f42⟩ <;> (try dsimp only) <;> omega
      · obtain rfl := List.mem_singleton.1 hx
        refine ⟨⟨.inr (.inl rfl), ?_, ?_, ?_⟩, ok19 _ _ _ ?_ ?_ ?_ ?_⟩ <;> (try dsimp only) <;> omega
theorem set_len (rd : Nat) (n : Int) (h : 1 ≤ rd ∧ rd ≤ 31) : 1 ≤ (setL rd n).length ∧ (setL rd n).length ≤ 2 := by
  refine ⟨?_, setL_length _ _⟩
  unfold setL
  rw [if_neg (by omega)]
  repeat' split
  all_goals simp
theorem runs_one (ρ : Nat → Int) (x : S38) : runs ρ [x] = stepR ρ x := rfl
theorem runs_two (ρ : Nat → Int) (x y : S38) : runs ρ [x, y] = stepR (stepR ρ x) y := rfl
theorem runs_app (ρ : Nat → Int) (l : List S38) (x : S38) : runs ρ (l ++ [x]) = stepR (runs ρ l) x := by
  unfold runs
  rw [List.foldl_append]
  rfl
theorem st42 (ρ : Nat → Int) (rd : Nat) (a b m : Int) (i : Nat) : stepR ρ ⟨42, rd, a, b, m⟩ i = if i = 0 then 0 else if i = rd then m % 4294967296 else ρ i := by
  unfold stepR upd1
  rw [if_pos rfl, Int.toNat_natCast, IntKind.wrap_u32]
theorem st19 (ρ : Nat → Int) (rd rs : Nat) (b m : Int) (i : Nat) : stepR ρ ⟨19, rd, rs, b, m⟩ i = if i = 0 then 0 else if i = rd then (ρ rs + m) % 4294967296 else ρ i := by
  unfold stepR upd1
  rw [if_neg (show ¬ ((19 : Int) = 42) by decide), if_pos rfl, Int.toNat_natCast, Int.toNat_natCast, IntKind.wrap_u32, IntKind.wrap_u32]
  have e : (ρ rs + m % 4294967296) % 4294967296 = (ρ rs + m) % 4294967296 := by omega
  dsimp only
  rw [e]
theorem st1 (ρ : Nat → Int) (rd rs by_ : Nat) (m : Int) (i : Nat) : stepR ρ ⟨1, rd, rs, by_, m⟩ i = if i = 0 then 0 else if i = rd then (ρ rs + ρ by_) % 4294967296 else ρ i := by
  unfold stepR upd1
  rw [if_neg (show ¬ ((1 : Int) = 42) by decide), if_neg (show ¬ ((1 : Int) = 19) by decide), Int.toNat_natCast, Int.toNat_natCast, Int.toNat_natCast, IntKind.wrap_u32]
theorem runs_set (ρ : Nat → Int) (rd : Nat) (n : Int) (h : 1 ≤ rd ∧ rd ≤ 31) (h0 : ρ 0 = 0) (i : Nat) : runs ρ (setL rd n) i = if i = 0 then 0 else if i = rd then n % 4294967296 else ρ i := by
  have hw : wrap32 (n - ((n + 2048) % 4096 - 2048)) % 4294967296 = (n - ((n + 2048) % 4096 - 2048)) % 4294967296 := by unfold wrap32; omega
  unfold setL
  rw [if_neg (by omega)]
  split
  · rw [runs_one, show (⟨19, (rd : Int), 0, 0, n⟩ : S38) = ⟨19, (rd : Int), ((0 : Nat) : Int), 0, n⟩ from rfl, st19, h0, Int.zero_add]
  · split
    · rename_i hz
      rw [runs_one, st42, hw, hz, Int.sub_zero]
    · rw [runs_two, st19, st42, st42]
      by_cases c : i = 0
      · rw [if_pos c, if_pos c]
      · rw [if_neg c, if_neg c]
        by_cases e : i = rd
        · rw [if_pos e, if_pos e, if_neg (by omega), if_pos rfl, hw]
          omega
        · rw [if_neg e, if_neg e, if_neg c, if_neg e]
theorem add_len (rd rs by_ : Nat) (n : Int) : (addL rd rs n by_).length ≤ 3 := addL_length _ _ _ _
theorem add_same (rd rs : Nat) (n : Int) : addL rd rs n rs = [] := by
  unfold addL
  rw [if_pos (.inl (by omega))]
theorem add_in (rd rs by_ : Nat) (n : Int) (h : 1 ≤ rd ∧ rd ≤ 31) (hr : rs ≤ 31) (hy : 1 ≤ by_ ∧ by_ ≤ 31) (hn : -2147483648 ≤ n ∧ n ≤ 2147483647) : ∀ x ∈ addL rd rs n by_, Fine x ∧ okX x := by
  intro x hx
  unfold addL at hx
  split at hx
  · cases hx
  · split at hx
    · obtain rfl := List.mem_singleton.1 hx
      refine ⟨⟨.inr (.inl rfl), ?_, ?_, ?_⟩, ok19 _ _ _ ?_ ?_ ?_ ?_⟩ <;> (try dsimp only) <;> omega
    · rcases List.mem_append.1 hx with hx | hx
      · exact set_in by_ n hy hn x hx
      · obtain rfl := List.mem_singleton.1 hx
        refine ⟨⟨.inr (.inr rfl), ?_, ?_, ?_⟩, ok1 _ _ _ ?_ ?_ ?_⟩ <;> (try dsimp only) <;> omega
theorem runs_add (ρ : Nat → Int) (rd rs by_ : Nat) (n : Int) (h : 1 ≤ rd ∧ rd ≤ 31) (hr : rs ≤ 31) (hy : 1 ≤ by_ ∧ by_ ≤ 31) (hne : by_ ≠ rs) (h0 : ρ 0 = 0) (hρ : ∀ i, 0 ≤ ρ i ∧ ρ i < 4294967296) :
    runs ρ (addL rd rs n by_) rd = (ρ rs + n) % 4294967296 ∧ ∀ i, i ≠ rd → i ≠ by_ → runs ρ (addL rd rs n by_) i = ρ i := by
  have hp := hρ rs
  unfold addL
  by_cases a : n = 0 ∧ (rd : Int) = rs
  · rw [if_pos (.inr a)]
    obtain ⟨a1, a2⟩ := a
    have a2 : rd = rs := by omega
    subst a1 a2
    refine ⟨?_, fun i _ _ => rfl⟩
    show ρ rd = _
    omega
  · rw [if_neg (by omega)]
    split
    · rw [runs_one]
      refine ⟨?_, fun i h1 h2 => ?_⟩
      · rw [st19, if_neg (by omega), if_pos rfl]
      · rw [st19]
        by_cases c : i = 0
        · rw [if_pos c, c, h0]
        · rw [if_neg c, if_neg h1]
    · rw [runs_app]
      have hs := runs_set ρ by_ n hy h0
      refine ⟨?_, fun i h1 h2 => ?_⟩
      · rw [st1, if_neg (by omega), if_pos rfl, hs, hs, if_neg (show ¬ by_ = 0 by omega), if_pos rfl, if_neg (show ¬ rs = by_ by omega)]
        by_cases c : rs = 0
        · rw [if_pos c, c, h0]; omega
        · rw [if_neg c]; omega
      · rw [st1]
        by_cases c : i = 0
        · rw [if_pos c, c, h0]
        · rw [if_neg c, if_neg h1, hs, if_neg c, if_neg h2]
end Go.Proofs.Yteglbikbnlebpaa.Pd
