/- The document's Check and Layout: plain laws. -/
import Derived.Test.YtihecimbhhlhaaaAmE
import Derived.Test.YtihecimbhhlhaaaRlH
import Derived.Test.YtihecimbhhlhaaaRsPintleref13Layout
namespace Go.Proofs.Ytihecimbhhlhaaa.Rl
open Go.RowKit Dr PRs
open Go.Proofs.YtihecimbhhlhaaaW.PrintWords (Kd Kd.C Kd.R Kd.C_below Kd.C_get Kd.R_below Kd.R_reads Kd.R_reads' Kd.R_types Kd.R_step Kd.R_alloc Kd.R_drew Kd.R_lower add_field)
set_option linter.unusedVariables false
set_option linter.unusedSimpArgs false
set_option maxRecDepth 100000
open Go.Proofs.Ytihecimbhhlhaaa.Pure ImmPlain
theorem may_doc {x : S34} (h : mayB x = true) (k : Nat) : d13m.f (k + 68) x.f0 x.f1.f0 x.f1.f1 x.f1.f2 x.f1.f3 x.f1.f4 x.f2 = some true := by
 have hk := may_kinds h
 have he := renc_is k x.f1.f0 x.f1.f1 x.f1.f2 x.f1.f3 x.f1.f4
 unfold d13m.f
 rw [he]
 unfold okY at hk
 simp only [Option.bind_some]
 rcases hk with ⟨h0, h1⟩ | ⟨h0, h1, h2, h3, h4, h5⟩ | ⟨h0, h1, h2, h3⟩ | ⟨h0, h1, h2, h3⟩ | ⟨h0, h1, h2, h3, h4⟩
 · rw [if_pos h0, if_pos h1]
 · rw [if_neg (by omega), if_pos h0, h1, h2, h3, h4, h5]
   rfl
 · rw [if_neg (by omega), if_neg (by omega), if_pos h0, if_pos h3, if_pos rfl, if_pos h1.1, if_pos h1.2, h2]
   rfl
 · rw [if_neg (by omega), if_neg (by omega), if_neg (by omega), if_pos h0, if_pos h3, if_pos rfl, if_pos h1, h2]
   rfl
 · rw [if_neg (by omega), if_neg (by omega), if_neg (by omega), if_neg (by omega), if_pos h0, if_pos h2, if_pos h3, if_pos h4, if_pos (by omega)]
   have : x.f1.f1 ≤ 31 := by omega
   rw [decide_eq_true this]
theorem rd34 (l : List S34) (i : Nat) : rd_T34 l (i : Int) = l.getD i z34 := by unfold rd_T34; rw [Int.toNat_natCast]
theorem up1 {l : List S34} (hl : l.length ≤ 4000) {i : Nat} (h : i < l.length) : wrap64 ((i : Int) + 1) = ((i + 1 : Nat) : Int) := by rw [w64 _ (by omega)]; rfl
theorem find_at {l : List S34} (hl : l.length ≤ 4000) (ho : okL l) {key : Int} (hs : (lab l l.length key).isSome = true) {k : Nat} (hk : 2 * l.length + 1 ≤ k) : d13F.f k l key = some (at_ l key : Int) :=
 Go.Proofs.YtihecimbhhlhaaaW.PrintWords.at_rounds (g := fun k => d13F.f k l key) (fun k => d13F.mono l key k) hk (find_is l key hl ho.2.1 hs)
theorem lab_kind {l : List S34} (ho : okL l) {i : Nat} (hi : i < l.length) (h : (l.getD i z34).f0 = 2 ∨ (l.getD i z34).f0 = 3 ∨ (l.getD i z34).f0 = 4) : (lab l l.length (l.getD i z34).f2).isSome = true := by
 rcases h with h | h | h
 · exact lab_has hi h
 · exact ho.2.2 i hi (by unfold nameB; rw [h]; rfl)
 · exact ho.2.2 i hi (by unfold nameB; rw [h]; rfl)
theorem chk1 {l : List S34} (hl : l.length ≤ 4000) (ho : okL l) : ∀ (d i k : Nat), i + d = l.length → 2 * l.length + 68 + d ≤ k → d13C.l1 (k + 1) l i = some 0
 | 0, i, k, h, hk => by
  simp only [d13C.l1]
  rw [if_neg (by omega)]
 | d + 1, i, k, h, hk => by
  have hil : i < l.length := by omega
  obtain ⟨k', rfl⟩ : ∃ k', k = k' + 1 := ⟨k - 1, by omega⟩
  have ih := chk1 hl ho d (i + 1) k' (by omega) (by omega)
  have e := up1 hl hil
  have lk := lab_kind ho hil
  simp only [d13C.l1] at ih ⊢
  rw [if_pos (by omega), if_pos (by omega), rd34, e]
  generalize l.getD i z34 = x at *
  by_cases c : x.f0 ≥ 2
  · rw [if_pos c]
    by_cases c2 : x.f0 ≤ 4
    · rw [if_pos c2, find_at hl ho (lk (by omega)) (by omega)]
      simp only [Option.bind_some]
      rw [if_neg (by omega)]
      exact ih
    · rw [if_neg c2]
      exact ih
  · rw [if_neg c]
    exact ih
theorem chk0 {l : List S34} (hl : l.length ≤ 4000) (ho : okL l) : ∀ (d i k : Nat), i + d = l.length → 3 * l.length + 69 + d ≤ k → d13C.l0 (k + 1) l i = some 0
 | 0, i, k, h, hk => by
  obtain ⟨k', rfl⟩ : ∃ k', k = k' + 1 := ⟨k - 1, by omega⟩
  have := chk1 hl ho l.length 0 k' (by omega) (by omega)
  simp only [d13C.l0]
  rw [if_neg (by omega)]
  exact this
 | d + 1, i, k, h, hk => by
  have hil : i < l.length := by omega
  obtain ⟨k', rfl⟩ : ∃ k', k = k' + 1 := ⟨k - 1, by omega⟩
  have ih := chk0 hl ho d (i + 1) k' (by omega) (by omega)
  have e := up1 hl hil
  have hm := ho.1 i hil
  have hmd := may_doc hm (k' + 1 - 68)
  rw [show k' + 1 - 68 + 68 = k' + 1 by omega] at hmd
  show (if (i : Int) < (l.length : Int) then _ else _) = _
  rw [if_pos (by omega), if_pos (by omega), rd34, hmd, e]
  exact ih
theorem chk_doc {l : List S34} (hl : l.length ≤ 4000) (ho : okL l) {k : Nat} (hk : 4 * l.length + 70 ≤ k) : d13C.f k l = some 0 := by
 obtain ⟨k', rfl⟩ : ∃ k', k = k' + 1 := ⟨k - 1, by omega⟩
 unfold d13C.f
 rw [if_neg (by omega)]
 exact chk0 hl ho l.length 0 k' (by omega) (by omega)
theorem rd_beg {l : List S34} (far : Nat → Bool) {n i : Nat} (h : i < n) : Go.Proofs.YtihecimbhhlhaaaW.PrintWords.rd (begs l far n) (i : Int) = beg l far i := by
 unfold Go.Proofs.YtihecimbhhlhaaaW.PrintWords.rd begs
 rw [Int.toNat_natCast]
 simp [List.getD, h]
theorem by_doc {l : List S34} (hl : l.length ≤ 4000) (ho : okL l) (far : Nat → Bool) {i : Nat} (hi : i < l.length) (hs : (lab l l.length (l.getD i z34).f2).isSome = true) {k : Nat} (hk : 2 * l.length + 1 ≤ k) : d13B.f k l (begs l far (l.length + 1)) i = some (off l far i) := by
 have hal := at_lt l (l.getD i z34).f2
 have h1 := beg_in l far (at_ l (l.getD i z34).f2)
 have h2 := beg_in l far i
 unfold d13B.f
 rw [if_pos (by omega), if_pos (by omega), rd34, find_at hl ho hs hk]
 simp only [Option.bind_some]
 rw [if_pos (by omega), if_pos (by rw [begs_len]; omega), if_pos (by rw [begs_len]; omega), rd_beg far hal, rd_beg far (by omega), w64 _ (by omega)]
 rfl
/-- The document's rounds. -/
def farR (l : List S34) : Nat → (Nat → Bool)
 | 0 => fun _ => false
 | m + 1 => nx l (farR l m) l.length
theorem farR_FI (l : List S34) : ∀ m, FI l (farR l m)
 | 0 => FI_none l
 | m + 1 => FI_step (farR_FI l m)
theorem unf_cnt {l : List S34} {far : Nat → Bool} (h : ∀ i, far i = true → (l.getD i z34).f0 = 3) : ∀ n, n ≤ unf far n + cnt l n
 | 0 => Nat.le_refl _
 | n + 1 => by
  have ih := unf_cnt h n
  simp only [unf, cnt]
  by_cases q : far n = true
  · rw [if_pos q, if_pos (h n q)]; omega
  · rw [if_neg q]; split <;> omega
theorem unf_le_n (far : Nat → Bool) : ∀ n, unf far n ≤ n
 | 0 => Nat.le_refl _
 | n + 1 => by
  have := unf_le_n far n
  simp only [unf]
  split <;> omega
theorem farR_run (l : List S34) : ∀ m, (∃ j, j < m ∧ chg l (farR l j) l.length = false) ∨ unf (farR l m) l.length + m ≤ l.length
 | 0 => .inr (unf_le_n _ _)
 | m + 1 => by
  rcases farR_run l m with ⟨j, hj, h⟩ | h
  · exact .inl ⟨j, by omega, h⟩
  · cases q : chg l (farR l m) l.length with
    | false => exact .inl ⟨m, by omega, q⟩
    | true =>
     have := unf_nx q
     exact .inr (by show unf (nx l (farR l m) l.length) l.length + (m + 1) ≤ l.length; omega)
theorem farR_stay {l : List S34} {j : Nat} (h : chg l (farR l j) l.length = false) : ∀ d, farR l (j + d) = farR l j
 | 0 => rfl
 | d + 1 => by
  show nx l (farR l (j + d)) l.length = _
  rw [farR_stay h d]
  exact (nx_done h).1
theorem farR_end (l : List S34) : farR l (cnt l l.length + 1) = farR l (cnt l l.length) ∧ good l (farR l (cnt l l.length)) := by
 rcases farR_run l (cnt l l.length + 1) with ⟨j, hj, h⟩ | h
 · have e1 := farR_stay h (cnt l l.length - j)
   have e2 := farR_stay h (cnt l l.length + 1 - j)
   rw [show j + (cnt l l.length - j) = cnt l l.length by omega] at e1
   rw [show j + (cnt l l.length + 1 - j) = cnt l l.length + 1 by omega] at e2
   rw [e1, e2]
   exact ⟨rfl, (nx_done h).2⟩
 · have := unf_cnt (far := farR l (cnt l l.length + 1)) (fun i hi => ((farR_FI l (cnt l l.length + 1)).1 i hi).2) l.length
   omega
theorem farL_set {far : Nat → Bool} {n i : Nat} (f2 : Nat → Bool) (h : ∀ j, f2 j = if j = i then true else far j) : (farL far n).set i true = farL f2 n := by
 apply List.ext_getElem?
 intro j
 unfold farL
 rw [List.getElem?_set]
 by_cases hj : j < n
 · by_cases e : i = j
   · subst e
     simp [hj, h]
   · rw [if_neg e]
     simp [hj, h, Ne.symm e]
 · have : ¬ i = j ∨ i = j := by omega
   rcases this with e | e
   · rw [if_neg e]; simp [hj]
   · subst e; simp [hj]
theorem nx_bad {l : List S34} {far : Nat → Bool} {m : Nat} (h : bad l far m = true) : ∀ j, nx l far (m + 1) j = if j = m then true else nx l far m j := by
 intro j
 unfold nx
 by_cases e : j = m
 · subst e; simp [h]
 · rw [if_neg e]
   have : decide (j < m + 1) = decide (j < m) := by
    apply decide_eq_decide.2
    omega
   rw [this]
theorem nx_ok {l : List S34} {far : Nat → Bool} {m : Nat} (h : bad l far m = false) : nx l far (m + 1) = nx l far m := by
 funext j
 unfold nx
 by_cases e : j = m
 · subst e; simp [h]
 · have : decide (j < m + 1) = decide (j < m) := by
    apply decide_eq_decide.2
    omega
   rw [this]
theorem lay3 {l : List S34} (hl : l.length ≤ 4000) (ho : okL l) {far : Nat → Bool} (hF : ∀ i, far i = true → i < l.length ∧ (l.getD i z34).f0 = 3) : ∀ (d i k : Nat), i + d = l.length → 2 * l.length + 1 + d ≤ k → d13L.l3 (k + 1) l (farL far l.length) (begs l far (l.length + 1)) i = some (begs l far (l.length + 1), farL far l.length, 0)
 | 0, i, k, h, hk => by
  simp only [d13L.l3]
  rw [if_neg (by omega)]
 | d + 1, i, k, h, hk => by
  have hil : i < l.length := by omega
  obtain ⟨k', rfl⟩ : ∃ k', k = k' + 1 := ⟨k - 1, by omega⟩
  have ih := lay3 hl ho hF d (i + 1) k' (by omega) (by omega)
  have e := up1 hl hil
  have hof := off_in hl far hil
  have lk := lab_kind ho hil
  have hb := by_doc hl ho far hil (k := k' + 1)
  have hfi := hF i
  have hfl := rd_far (far := far) hil
  have hlen := farL_len far l.length
  show (if (i : Int) < (l.length : Int) then _ else _) = _
  rw [if_pos (by omega), if_pos (by omega), rd34, e, hfl, hlen]
  by_cases c : (l.getD i z34).f0 = 4
  · have hfn : far i = false := by
     cases q : far i with
     | false => rfl
     | true => have := (hfi q).2; omega
    rw [if_pos c, hb (lk (.inr (.inr c))) (by omega)]
    simp only [Option.bind_some]
    rw [if_neg (by omega), if_neg (by omega), if_pos (by omega), hfn, if_neg (by decide)]
    exact ih
  · rw [if_neg c, if_pos (by omega)]
    cases q : far i with
    | false =>
     rw [if_neg (by decide)]
     exact ih
    | true =>
     rw [if_pos rfl, hb (lk (.inr (.inl (hfi q).2))) (by omega)]
     simp only [Option.bind_some]
     rw [if_neg (by omega), if_neg (by omega)]
     exact ih
theorem lay2 {l : List S34} (hl : l.length ≤ 4000) (ho : okL l) (far : Nat → Bool) (many m : Int) (F : Nat) (hK : 2 * l.length + 1 ≤ F) : ∀ (d i : Nat), i + d = l.length → d13L.l2 (F + d + 1) l (begs l far (l.length + 1)) many m (farL (nx l far i) l.length) i = d13L.l1 F l (farL (nx l far l.length) l.length) (begs l far (l.length + 1)) many (wrap64 (m + 1))
 | 0, i, h => by
  obtain rfl : i = l.length := by omega
  simp only [Nat.add_zero, d13L.l2]
  rw [if_neg (by omega)]
 | d + 1, i, h => by
  have hil : i < l.length := by omega
  have ih := lay2 hl ho far many m F hK d (i + 1) (by omega)
  have e := up1 hl hil
  have hof := off_in hl far hil
  have lk := lab_kind ho hil
  have hb := by_doc hl ho far hil (k := F + (d + 1))
  have hlen := farL_len (nx l far i) l.length
  show (if (i : Int) < (l.length : Int) then _ else _) = _
  rw [if_pos (by omega), if_pos (by omega), rd34, e]
  by_cases c : (l.getD i z34).f0 = 3
  · rw [if_pos c, hb (lk (.inr (.inl c))) (by omega)]
    simp only [Option.bind_some]
    by_cases c1 : off l far i < (-4096)
    · have hbad : bad l far i = true := by
       unfold bad
       rw [c, decide_eq_false (by omega)]
       rfl
      rw [if_pos c1, if_pos (by rw [hlen]; omega), Int.toNat_natCast, farL_set _ (nx_bad hbad)]
      exact ih
    · rw [if_neg c1]
      by_cases c2 : off l far i > 4094
      · have hbad : bad l far i = true := by
         unfold bad
         rw [c, decide_eq_false (by omega)]
         rfl
        rw [if_pos c2, if_pos (by rw [hlen]; omega), Int.toNat_natCast, farL_set _ (nx_bad hbad)]
        exact ih
      · have hbad : bad l far i = false := by
         unfold bad
         rw [decide_eq_true (by omega)]
         simp
        rw [if_neg c2, ← nx_ok hbad]
        exact ih
  · have hbad : bad l far i = false := by
     unfold bad
     have : ((l.getD i z34).f0 == 3) = false := by simpa using c
     rw [this]
     rfl
    rw [if_neg c, ← nx_ok hbad]
    exact ih
theorem lay1 {l : List S34} (hl : l.length ≤ 4000) (hJ : ∀ x ∈ l, In32 x.f1.f4) (ho : okL l) : ∀ (r m : Nat) (p : List Int), m + r = cnt l l.length + 1 → (r = 0 → p = begs l (farR l (cnt l l.length)) (l.length + 1)) → d13L.l1 (3 * l.length + 10 + r * (l.length + 2) + 1) l (farL (farR l m) l.length) p (cnt l l.length : Int) m = some (begs l (farR l (cnt l l.length)) (l.length + 1), farL (farR l (cnt l l.length)) l.length, 0)
 | 0, m, p, h, hp => by
  have hend := farR_end l
  simp only [Nat.zero_mul, Nat.add_zero, d13L.l1]
  rw [if_neg (by omega), hp rfl]
  obtain rfl : m = cnt l l.length + 1 := by omega
  rw [hend.1]
  exact lay3 hl ho (farR_FI l _).1 l.length 0 (3 * l.length + 9) (by omega) (by omega)
 | r + 1, m, p, h, hp => by
  have hcl := cnt_le l l.length
  have ih := lay1 hl hJ ho r (m + 1) (begs l (farR l m) (l.length + 1)) (by omega) (fun hr => by rw [show m = cnt l l.length by omega])
  have hpl : d13P.f (3 * l.length + 10 + (r + 1) * (l.length + 2)) l (farL (farR l m) l.length) = some (begs l (farR l m) (l.length + 1)) :=
   Go.Proofs.YtihecimbhhlhaaaW.PrintWords.at_rounds (g := fun k => d13P.f k l (farL (farR l m) l.length)) (fun k => d13P.mono _ _ k) (by omega) (places_ref l (farR l m) hl (fun i _ hi => ((farR_FI l m).1 i hi).2) hJ)
  simp only [d13L.l1]
  rw [if_pos (by omega), hpl]
  simp only [Option.bind_some, List.nil_append, List.length_nil]
  rw [if_pos (by rw [farL_len]; omega)]
  have h2 := lay2 hl ho (farR l m) (cnt l l.length : Int) m (3 * l.length + 10 + r * (l.length + 2) + 1) (by omega) l.length 0 (by omega)
  rw [show nx l (farR l m) 0 = farR l m from by funext j; simp [nx], w64 _ (by omega)] at h2
  rw [show 3 * l.length + 10 + (r + 1) * (l.length + 2) = 3 * l.length + 10 + r * (l.length + 2) + 1 + l.length + 1 by rw [Nat.add_mul]; omega]
  exact h2.trans ih
theorem lay0 {l : List S34} (hl : l.length ≤ 4000) (p : List Int) (b : List Bool) (F : Nat) : ∀ (d i : Nat), i + d = l.length → d13L.l0 (F + d + 1) l b p (cnt l i : Int) i = d13L.l1 F l b p (cnt l l.length : Int) 0
 | 0, i, h => by
  obtain rfl : i = l.length := by omega
  simp only [Nat.add_zero, d13L.l0]
  rw [if_neg (by omega)]
 | d + 1, i, h => by
  have hil : i < l.length := by omega
  have ih := lay0 hl p b F d (i + 1) (by omega)
  have e := up1 hl hil
  have hcl := cnt_le l i
  show (if (i : Int) < (l.length : Int) then _ else _) = _
  rw [if_pos (by omega), if_pos (by omega), rd34, e]
  by_cases c : (l.getD i z34).f0 = 3
  · rw [if_pos c, w64 _ (by omega)]
    simp only [cnt, if_pos c] at ih
    exact ih
  · rw [if_neg c]
    simp only [cnt, if_neg c, Nat.add_zero] at ih
    exact ih
/-- The document's Layout of items that may be: the same places and branches as the program's. -/
theorem layout_ref {l : List S34} (hl : l.length ≤ 4000) (hJ : ∀ x ∈ l, In32 x.f1.f4) (ho : okL l) : ∃ k far, d13L.f k l = some (begs l far (l.length + 1), farL far l.length, 0) ∧ good l far ∧ FI l far := by
 have hm := lay1 hl hJ ho (cnt l l.length + 1) 0 (begs l (fun _ => false) (l.length + 1)) (by omega) (fun h => by omega)
 generalize hF : 3 * l.length + 10 + (cnt l l.length + 1) * (l.length + 2) + 1 = F at hm
 have hF1 : (cnt l l.length + 1) * (l.length + 2) ≥ l.length + 2 := Nat.le_mul_of_pos_left _ (Nat.succ_pos _)
 refine ⟨F + l.length + 1 + 100, farR l (cnt l l.length), ?_, (farR_end l).2, farR_FI l _⟩
 have h0 := lay0 hl (begs l (fun _ => false) (l.length + 1)) (farL (fun _ => false) l.length) (F + 100) l.length 0 (by omega)
 have hm2 : d13L.l1 (F + 100) l (farL (fun _ => false) l.length) (begs l (fun _ => false) (l.length + 1)) (cnt l l.length : Int) 0 = some (begs l (farR l (cnt l l.length)) (l.length + 1), farL (farR l (cnt l l.length)) l.length, 0) :=
  Go.Proofs.YtihecimbhhlhaaaW.PrintWords.at_rounds (g := fun k => d13L.l1 k l (farL (fun _ => false) l.length) (begs l (fun _ => false) (l.length + 1)) (cnt l l.length : Int) 0) (fun k => (d13L.mono_l k).2.1 _ _ _ _ _) (by omega) hm
 have hpl : d13P.f (F + l.length + 1 + 100) l (farL (fun _ => false) l.length) = some (begs l (fun _ => false) (l.length + 1)) :=
  Go.Proofs.YtihecimbhhlhaaaW.PrintWords.at_rounds (g := fun k => d13P.f k l (farL (fun _ => false) l.length)) (fun k => d13P.mono _ _ k) (by omega) (places_ref l (fun _ => false) hl (fun i _ hi => nomatch hi) hJ)
 have hrep : List.replicate ((l.length : Int) : Int).toNat false = farL (fun _ => false) l.length := by
  rw [Int.toNat_natCast]
  unfold farL
  apply List.ext_getElem?
  intro j
  by_cases hj : j < l.length <;> simp [hj]
 unfold d13L.f
 rw [chk_doc hl ho (by omega)]
 simp only [Option.bind_some]
 rw [if_pos trivial, if_pos (by omega), if_pos (by omega), hrep, hpl]
 simp only [Option.bind_some]
 rw [show F + l.length + 1 + 100 = F + 100 + l.length + 1 by omega]
 exact h0.trans hm2
end Go.Proofs.Ytihecimbhhlhaaa.Rl
