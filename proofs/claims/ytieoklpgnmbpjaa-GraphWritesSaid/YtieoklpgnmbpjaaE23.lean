/- Plain law: bytes cut off are none; bytes with others behind them are none. -/
import Derived.Test.YtieoklpgnmbpjaaE20
namespace Go.Proofs.Ytieoklpgnmbpjaa.Gr
open Go.RowKit Dr
set_option linter.unusedVariables false
set_option linter.unusedSimpArgs false
abbrev St := List Int × Int
/-- What is read of bytes that are cut off: as of the whole, or it is too short. -/
structure Rdr {α : Type} (f : St → α × St) : Prop where
  z : ∀ s, (f s).2.2 = 0 → s.2 = 0
  t : ∀ s, s.2 = 3 → (f s).2.2 = 3
  h : ∀ p more, (f (p ++ more, 0)).2.2 = 0 → (f (p, 0)).2.2 = 3 ∨ ∃ v p', f (p, 0) = (v, (p', 0)) ∧ f (p ++ more, 0) = (v, (p' ++ more, 0))
theorem fails_z {x e : Int} (hx : x ≠ 0) (h : fails x e = 0) : False := by
  unfold fails at h
  split at h
  · exact hx h
  · contradiction
theorem fails3 (x : Int) : fails x 3 = 3 := by unfold fails; rw [if_neg (by decide)]
theorem le4_app {l : List Int} (r : List Int) (h : 4 ≤ l.length) : le4 (l ++ r) = le4 l := by
  obtain ⟨a, b, c, d, q, rfl⟩ := four_of h
  rfl
theorem rdr_num : Rdr num where
  z := fun s h => by
    unfold num at h
    split at h
    · exact absurd h (fun h => fails_z (by decide) h)
    · exact h
  t := fun s h => by
    unfold num
    rw [if_pos (.inl (by rw [h]; decide))]
    show fails 3 s.2 = 3
    rw [h]
    exact fails3 3
  h := fun p more h => by
    by_cases hp : p.length < 4
    · left
      unfold num
      rw [if_pos (.inr hp)]
      rfl
    · right
      refine ⟨le4 p, p.drop 4, ?_, ?_⟩
      · unfold num
        rw [if_neg (by simp; omega)]
      · unfold num
        rw [if_neg (by simp; omega)]
        simp only
        rw [le4_app _ (by omega), List.drop_append_of_le_length (by omega)]
theorem rdr_take (n : Nat) : Rdr (take n) where
  z := fun s h => by
    unfold take at h
    split at h
    · exact absurd h (fun h => fails_z (by decide) h)
    · exact h
  t := fun s h => by
    unfold take
    rw [if_pos (.inl (by rw [h]; decide))]
    show fails 3 s.2 = 3
    rw [h]
    exact fails3 3
  h := fun p more h => by
    by_cases hp : p.length < n
    · left
      unfold take
      rw [if_pos (.inr hp)]
      rfl
    · right
      refine ⟨some (p.take n), p.drop n, ?_, ?_⟩
      · unfold take
        rw [if_neg (by simp; omega)]
      · unfold take
        rw [if_neg (by simp; omega)]
        simp only
        rw [List.take_append_of_le_length (by omega), List.drop_append_of_le_length (by omega)]
theorem rdr_many (most : Int) (hm : 0 ≤ most) : Rdr (many most) where
  z := fun s h => by
    unfold many at h
    split at h
    · exact (fails_z (x := 2) (by decide) h).elim
    · exact rdr_num.z s h
  t := fun s h => by
    have h3 := rdr_num.t s h
    unfold many
    split
    · show fails 2 (num s).2.2 = 3
      rw [h3]
      exact fails3 2
    · exact h3
  h := fun p more h => by
    have h0 : (num (p ++ more, 0)).2.2 = 0 := by
      unfold many at h
      split at h
      · exact (fails_z (x := 2) (by decide) h).elim
      · exact h
    rcases rdr_num.h p more h0 with h3 | ⟨v, p', e1, e2⟩
    · left
      unfold many
      split
      · show fails 2 (num (p, 0)).2.2 = 3
        rw [h3]
        exact fails3 2
      · exact h3
    · right
      unfold many at h ⊢
      rw [e2] at h ⊢
      rw [e1]
      simp only at h ⊢
      split at h
      · exact (fails_z (x := 2) (e := 0) (by decide) h).elim
      · rename_i q
        rw [if_neg q]
        exact ⟨v, p', rfl, by rw [if_neg q]⟩
theorem rdr_rep {α : Type} {f : St → α × St} (hf : Rdr f) : ∀ n, Rdr (rep f n)
  | 0 => ⟨fun s h => h, fun s h => h, fun p more _ => .inr ⟨[], p, rfl, rfl⟩⟩
  | n + 1 => by
    have ih := rdr_rep hf n
    refine ⟨fun s h => ih.z s (hf.z _ h), fun s h => hf.t _ (ih.t s h), fun p more h => ?_⟩
    rcases ih.h p more (hf.z _ h) with h3 | ⟨v, p', e1, e2⟩
    · exact .inl (hf.t _ h3)
    · simp only [rep] at h ⊢
      rw [e2] at h ⊢
      rw [e1]
      rcases hf.h p' more h with h3 | ⟨v2, p2, e3, e4⟩
      · exact .inl h3
      · simp only
        rw [e3, e4]
        exact .inr ⟨v ++ [v2], p2, rfl, rfl⟩
theorem lst_rep (n : Nat) (s : St) : lst n s = rep num n s := by
  induction n with
  | zero => rfl
  | succ n ih => simp only [lst, rep, ih]
theorem rdr_lst (n : Nat) : Rdr (lst n) := by
  have : lst n = rep num n := funext (lst_rep n)
  rw [this]
  exact rdr_rep rdr_num n
theorem rdr_wrd : ∀ n, Rdr (wrd n)
  | 0 => ⟨fun s h => h, fun s h => h, fun p more _ => .inr ⟨[], p, rfl, rfl⟩⟩
  | n + 1 => by
    have ih := rdr_wrd n
    have e : ∀ s, wrd (n + 1) s = if (wrd n s).2.2 = 0 then ((wrd n s).1 ++ [IntKind.i32.wrap (num (wrd n s).2).1], (num (wrd n s).2).2) else wrd n s := fun s => rfl
    refine ⟨fun s h => ?_, fun s h => ?_, fun p more h => ?_⟩
    · rw [e] at h
      split at h
      · exact ih.z s (by assumption)
      · exact ih.z s h
    · rw [e]
      have h3 := ih.t s h
      rw [if_neg (by rw [h3]; decide)]
      exact h3
    · have h0 : (wrd n (p ++ more, 0)).2.2 = 0 := by
        rw [e] at h
        split at h
        · assumption
        · exact h
      rw [e, if_pos h0] at h
      rcases ih.h p more h0 with h3 | ⟨v, p', e1, e2⟩
      · left
        rw [e, if_neg (by rw [h3]; decide)]
        exact h3
      · rw [e, e, e1, e2, if_pos rfl, if_pos rfl]
        rw [e2] at h
        rcases rdr_num.h p' more h with h3 | ⟨v2, p2, e3, e4⟩
        · exact .inl h3
        · simp only
          rw [e3, e4]
          exact .inr ⟨_, p2, rfl, rfl⟩
theorem rdr_cby : Rdr cby where
  z := fun s h => (rdr_many 65536 (by decide)).z s ((rdr_take _).z _ h)
  t := fun s h => (rdr_take _).t _ ((rdr_many 65536 (by decide)).t s h)
  h := fun p more h => by
    have hm := rdr_many 65536 (by decide)
    unfold cby at h ⊢
    rcases hm.h p more ((rdr_take _).z _ h) with h3 | ⟨v, p', e1, e2⟩
    · exact .inl ((rdr_take _).t _ h3)
    · rw [e2] at h ⊢
      rw [e1]
      rcases (rdr_take v.toNat).h p' more h with h3 | ⟨v2, p2, e3, e4⟩
      · exact .inl h3
      · simp only
        rw [e3, e4]
        exact .inr ⟨_, p2, rfl, rfl⟩
theorem rdr_cwd : Rdr cwd where
  z := fun s h => (rdr_many 65536 (by decide)).z s ((rdr_wrd _).z _ h)
  t := fun s h => (rdr_wrd _).t _ ((rdr_many 65536 (by decide)).t s h)
  h := fun p more h => by
    have hm := rdr_many 65536 (by decide)
    unfold cwd at h ⊢
    rcases hm.h p more ((rdr_wrd _).z _ h) with h3 | ⟨v, p', e1, e2⟩
    · exact .inl ((rdr_wrd _).t _ h3)
    · rw [e2] at h ⊢
      rw [e1]
      exact (rdr_wrd v.toNat).h p' more h
theorem con_e (s : St) : (con s).2.2 = if 0 < (cby s).1.length ∧ 0 < (cwd (cby s).2).1.length then fails 4 (cwd (cby s).2).2.2 else (cwd (cby s).2).2.2 := rfl
theorem rdr_con : Rdr con where
  z := fun s h => by
    rw [con_e] at h
    split at h
    · exact (fails_z (x := 4) (by decide) h).elim
    · exact rdr_cby.z s (rdr_cwd.z _ h)
  t := fun s h => by
    have h3 := rdr_cwd.t _ (rdr_cby.t s h)
    rw [con_e, h3]
    split
    · exact fails3 4
    · rfl
  h := fun p more h => by
    have h0 : (cwd (cby (p ++ more, 0)).2).2.2 = 0 := by
      rw [con_e] at h
      split at h
      · exact (fails_z (x := 4) (by decide) h).elim
      · exact h
    rcases rdr_cby.h p more (rdr_cwd.z _ h0) with h3 | ⟨v, p', e1, e2⟩
    · left
      have h4 := rdr_cwd.t _ h3
      rw [con_e, h4]
      split
      · exact fails3 4
      · rfl
    · rw [e2] at h0
      rcases rdr_cwd.h p' more h0 with h3 | ⟨v2, p2, e3, e4⟩
      · left
        rw [con_e, e1]
        simp only
        rw [h3]
        split
        · exact fails3 4
        · rfl
      · right
        unfold con at h ⊢
        rw [e2] at h ⊢
        rw [e1]
        simp only at h ⊢
        rw [e4] at h ⊢
        rw [e3]
        simp only at h ⊢
        split at h
        · exact (fails_z (x := 4) (by decide) h).elim
        · rename_i q
          rw [if_neg q]
          exact ⟨(v, v2), p2, rfl, rfl⟩
theorem nod_s {s s1 : St} {l : List Int} (h : lst 27 s = (l, s1)) : (nod s).2.2 = if l.getD 26 0 = 0 then s1.2 else fails 4 s1.2 := by
  rw [nod_eq _ _ _ h]
theorem lst27_z {s s1 : St} {l : List Int} (h : lst 27 s = (l, s1)) (h0 : s1.2 = 0) : s.2 = 0 := by
  have := (rdr_lst 27).z s
  rw [h] at this
  exact this h0
theorem lst27_t {s s1 : St} {l : List Int} (h : lst 27 s = (l, s1)) (h0 : s.2 = 3) : s1.2 = 3 := by
  have := (rdr_lst 27).t s h0
  rw [h] at this
  exact this
theorem rdr_nod : Rdr nod where
  z := fun s h => by
    obtain ⟨l, s1, hl, -⟩ := lst_eq 27 s
    rw [nod_s hl] at h
    by_cases q : l.getD 26 0 = 0
    · rw [if_pos q] at h
      exact lst27_z hl h
    · rw [if_neg q] at h
      exact (fails_z (x := 4) (by decide) h).elim
  t := fun s h => by
    obtain ⟨l, s1, hl, -⟩ := lst_eq 27 s
    rw [nod_s hl, lst27_t hl h]
    by_cases q : l.getD 26 0 = 0
    · rw [if_pos q]
    · rw [if_neg q]
      exact fails3 4
  h := fun p more h => by
    obtain ⟨l, s1, hl, -⟩ := lst_eq 27 (p ++ more, 0)
    obtain ⟨l2, s2, hl2, -⟩ := lst_eq 27 (p, 0)
    have hh := (rdr_lst 27).h p more
    rw [hl, hl2] at hh
    rw [nod_s hl] at h
    rw [nod_eq _ _ _ hl, nod_eq _ _ _ hl2]
    by_cases q : l.getD 26 0 = 0
    · rw [if_pos q] at h ⊢
      rcases hh h with h3 | ⟨v, p', e1, e2⟩
      · left
        show (if l2.getD 26 0 = 0 then s2.2 else fails 4 s2.2) = 3
        rw [show s2.2 = 3 from h3]
        by_cases q2 : l2.getD 26 0 = 0
        · rw [if_pos q2]
        · rw [if_neg q2]
          exact fails3 4
      · right
        obtain ⟨rfl, rfl⟩ := Prod.mk.inj e1
        obtain ⟨rfl, rfl⟩ := Prod.mk.inj e2
        rw [if_pos q]
        exact ⟨l, p', rfl, rfl⟩
    · rw [if_neg q] at h
      exact (fails_z (x := 4) (by decide) h).elim
/-- What reading says in the end. -/
def fin (s : St) : Int := if s.1 = [] then s.2 else fails 4 s.2
theorem fin3 {s : St} (h : s.2 = 3) : fin s = 3 := by
  unfold fin
  rw [h]
  split
  · rfl
  · exact fails3 4
/-- A network's bytes, cut off behind the head: too short. -/
theorem cut_short {a b c o : Int} {cs : List (List Int × List Int)} {ns : List (List Int)} (hg : goodG a b c o cs ns) {p more : List Int} (hp : p ++ more = gb a b c o cs ns) (h28 : 28 ≤ p.length) (hm : more ≠ []) {a' b' c' o' : Int} {m' k' : Nat} {s' : St} (H : Hd p a' b' c' o' m' k' s') : fin (rep nod k' (rep con m' s').2).2 = 3 := by
  obtain ⟨s, hH, h1, h2⟩ := back hg []
  rw [List.append_nil, ← hp] at hH
  obtain ⟨⟨s1, s2, s3, e1, e2, e3, e4⟩, -, -⟩ := hH
  obtain ⟨⟨t1, t2, t3, f1, f2, f3, f4⟩, -, -⟩ := H
  have hd : (p ++ more).drop 4 = p.drop 4 ++ more := List.drop_append_of_le_length (by omega)
  rw [hd] at e1
  have K1 := rdr_lst 3
  have K2 := rdr_many 80 (by decide)
  have K3 := rdr_many 40 (by decide)
  have K5 := fun n => rdr_rep rdr_con n
  have K6 := fun n => rdr_rep rdr_nod n
  -- nothing went wrong with the whole
  have z6 : (rep nod ns.length (rep con cs.length s).2).2.2 = 0 := by rw [h1, h2]
  have z5 : (rep con cs.length s).2.2 = 0 := by rw [h1]
  have z4 : s.2 = 0 := (K5 _).z _ z5
  have z3 : s3.2 = 0 := rdr_num.z _ (by rw [e4]; exact z4)
  have z2 : s2.2 = 0 := K3.z _ (by rw [e3]; exact z3)
  have z1 : s1.2 = 0 := K2.z _ (by rw [e2]; exact z2)
  -- once it is too short, it stays so
  have T6 : ∀ {q : St}, q.2 = 3 → fin (rep nod k' (rep con m' q).2).2 = 3 := fun h => fin3 ((K6 _).t _ ((K5 _).t _ h))
  rcases K1.h (p.drop 4) more (by rw [e1]; exact z1) with q | ⟨v, p1, g1, g2⟩
  · rw [f1] at q
    have q2 : t2.2 = 3 := by have := K2.t _ q; rwa [f2] at this
    have q3 : t3.2 = 3 := by have := K3.t _ q2; rwa [f3] at this
    have q4 : s'.2 = 3 := by have := rdr_num.t _ q3; rwa [f4] at this
    exact T6 q4
  rw [f1] at g1
  rw [e1] at g2
  obtain ⟨-, rfl⟩ := Prod.mk.inj g1
  obtain ⟨-, rfl⟩ := Prod.mk.inj g2
  rcases K2.h p1 more (by rw [e2]; exact z2) with q | ⟨v2, p2, g3, g4⟩
  · rw [f2] at q
    have q3 : t3.2 = 3 := by have := K3.t _ q; rwa [f3] at this
    have q4 : s'.2 = 3 := by have := rdr_num.t _ q3; rwa [f4] at this
    exact T6 q4
  rw [f2] at g3
  rw [e2] at g4
  obtain ⟨r1, rfl⟩ := Prod.mk.inj g3
  obtain ⟨r2, rfl⟩ := Prod.mk.inj g4
  obtain rfl : m' = cs.length := by omega
  rcases K3.h p2 more (by rw [e3]; exact z3) with q | ⟨v3, p3, g5, g6⟩
  · rw [f3] at q
    have q4 : s'.2 = 3 := by have := rdr_num.t _ q; rwa [f4] at this
    exact T6 q4
  rw [f3] at g5
  rw [e3] at g6
  obtain ⟨r3, rfl⟩ := Prod.mk.inj g5
  obtain ⟨r4, rfl⟩ := Prod.mk.inj g6
  obtain rfl : k' = ns.length := by omega
  rcases rdr_num.h p3 more (by rw [e4]; exact z4) with q | ⟨v4, p4, g7, g8⟩
  · rw [f4] at q
    exact T6 q
  rw [f4] at g7
  rw [e4] at g8
  obtain ⟨-, rfl⟩ := Prod.mk.inj g7
  obtain ⟨-, rfl⟩ := Prod.mk.inj g8
  rcases (K5 cs.length).h p4 more z5 with q | ⟨v5, p5, g9, g10⟩
  · exact fin3 ((K6 _).t _ q)
  rw [g9]
  rw [g10] at h1 z6
  rcases (K6 ns.length).h p5 more z6 with q | ⟨v6, p6, g11, g12⟩
  · exact fin3 q
  exfalso
  obtain ⟨-, h4⟩ := Prod.mk.inj h1
  rw [← h4, g12] at h2
  obtain ⟨-, h5⟩ := Prod.mk.inj h2
  obtain ⟨h6, -⟩ := Prod.mk.inj h5
  exact hm (List.append_eq_nil_iff.1 h6).2
end Go.Proofs.Ytieoklpgnmbpjaa.Gr
