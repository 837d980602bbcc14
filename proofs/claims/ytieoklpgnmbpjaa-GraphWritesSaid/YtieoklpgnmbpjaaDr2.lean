/- A region that draws its order, by an invariant that may ask what has been done. -/
import Derived.Test.YtieoklpgnmbpjaaDr
import Derived.Test.YtieoklpgnmbpjaaMem
namespace Go.Proofs.Ytieoklpgnmbpjaa.Dr
open Go
set_option linter.unusedVariables false
set_option linter.unusedSimpArgs false

open Go.RowKit
variable {P : Program} {l : List Oper} {n : Nat} {Q : Exit → Act → World → Prop}
variable {o : Oper} {b : Act} {W : World} {K : Act → World → Prop} {ops : Array Oper}
/-- What has been done. -/
def dn (listed : Array Bool) : Nat → Bool := fun k => listed.getD k false
def upD (d : Nat → Bool) (k : Nat) : Nat → Bool := fun j => if j = k then true else d j
theorem dn_none (n : Nat) : dn (Array.replicate n false) = fun _ => false := by
  funext k
  exact getD_replicate_false _ _
theorem getD_flip {listed : Array Bool} {i : Nat} (hi : i < listed.size) (h : listed.getD i true = false) : dn listed i = false := by
  unfold dn
  simp [hi] at h ⊢
  exact h
theorem dn_set {listed : Array Bool} {i : Nat} (hi : i < listed.size) : dn (listed.setIfInBounds i true) = upD (dn listed) i := by
  funext k
  unfold dn upD
  by_cases e : k = i
  · subst e
    rw [if_pos rfl]
    simp [hi]
  · rw [if_neg e]
    exact getD_set_ne false (Ne.symm e)
def StepAtD {R : World → World → Prop} (P : Program) (ops : Array Oper) (Q : Exit → Act → World → Prop) (F : List (DSpec R)) (G : (Nat → Bool) → World → Prop) (b : Act) (vs : Nat → Value) (W : World) (d : Nat → Bool) (k : Nat) (o : Oper) : Prop :=
  d k = false → Known F o vs W → ∀ K : Act → World → Prop, (∀ v W', (specAt F k).p v W' → G (upD d k) W' → R W W' → K (b.put o.dst v) W') → if Region.wanted o (yielded ops b.tmps) = true then Oper.wp P o b W K Q else K (b.put o.dst undef) W
def StepsD {R : World → World → Prop} (P : Program) (ops : Array Oper) (Q : Exit → Act → World → Prop) (F : List (DSpec R)) (G : (Nat → Bool) → World → Prop) (b : Act) (vs : Nat → Value) (W : World) (d : Nat → Bool) : Nat → List Oper → Prop
  | _, [] => True
  | k, o :: l => StepAtD P ops Q F G b vs W d k o ∧ StepsD P ops Q F G b vs W d (k + 1) l
theorem stepsD_at {R : World → World → Prop} {ops : Array Oper} {F : List (DSpec R)} {G : (Nat → Bool) → World → Prop} {b : Act} {vs : Nat → Value} {W : World} {d : Nat → Bool} : ∀ (l : List Oper) (k i : Nat) (o : Oper), StepsD P ops Q F G b vs W d k l → l[i]? = some o → StepAtD P ops Q F G b vs W d (k + i) o
  | [], _, _, _, _, h => by simp at h
  | o' :: l, k, 0, o, hs, h => by
    obtain rfl : o' = o := by simpa using h
    exact hs.1
  | o' :: l, k, i + 1, o, hs, h => by
    rw [show k + (i + 1) = k + 1 + i by omega]
    exact stepsD_at l (k + 1) i o hs.2 (by simpa using h)

theorem any_orderD {R : World → World → Prop} {F : List (DSpec R)} {G : (Nat → Bool) → World → Prop} {a : Act} (hB : planB l n = true)
    (hstep : ∀ vs W d, G d W → ∀ b, b = fill (l.take n) 0 vs a → StepsD P l.toArray Q F G b vs W d 0 (l.take n))
    (hend : ∀ vs W d, G d W → (∀ k, k < n → (specAt F k).p (vs k) W) → ∀ b, b = fill (l.take n) 0 vs a → wpList P l.toArray Q (l.drop n) b W) :
    ∀ (f : Nat) (listed : Array Bool) (vs : Nat → Value) (W : World), listed.size = l.length → (∀ t, n ≤ t → t < l.length → listed.getD t true = false) →
      (∀ (j : Nat) oj, l.toArray[j]? = some oj → listed.getD j false = true → ∀ e ∈ oj.after, Region.binds .any e = true → listed.getD e.on false = true) →
      left n listed ≤ f → G (dn listed) W → (∀ k, k < n → listed.getD k false = true → (specAt F k).p (vs k) W) → wpAny P .any l.toArray Q (f + (l.length - n)) listed (fill (l.take n) 0 vs a) W := by
  simp only [planB, Bool.and_eq_true, Bool.or_eq_true, decide_eq_true_eq] at hB
  obtain ⟨⟨⟨⟨hn, hlow⟩, hdst⟩, hsc⟩, hseq⟩ := hB
  have hready : ∀ listed : Array Bool, listed.size = l.length → (∀ t, n ≤ t → t < l.length → listed.getD t true = false) →
      (∀ (j : Nat) oj, l.toArray[j]? = some oj → listed.getD j false = true → ∀ e ∈ oj.after, Region.binds .any e = true → listed.getD e.on false = true) →
      ∀ i, i < n → listed.getD i false = false → ∀ j ∈ Region.ready .any l.toArray listed, j < n := by
    intro listed hs ht hc i hi hun j hj
    obtain ⟨_, oj, hoj, _⟩ := mem_ready.1 hj
    have hjl : j < l.length := by have := (Array.getElem?_eq_some_iff.1 hoj).1; simpa using this
    rcases hsc with h | ⟨hsink, hchain⟩
    · omega
    · by_cases h : n = l.length
      · omega
      · rcases Nat.lt_or_ge j n with h' | h'
        · exact h'
        · exact absurd hj (tail_waits hsink hchain (by simp; omega) ⟨by simpa using hs, hc, fun t h1 h2 => ht t h1 (by simpa using h2)⟩ _ i rfl hi (getD_in (by omega) hun) j h')
  have hdone : ∀ (f : Nat) (listed : Array Bool) (vs : Nat → Value) (W : World), listed.size = l.length → (∀ t, n ≤ t → t < l.length → listed.getD t true = false) → (∀ k, k < n → listed.getD k false = true) → G (dn listed) W → (∀ k, k < n → listed.getD k false = true → (specAt F k).p (vs k) W) → wpAny P .any l.toArray Q (f + (l.length - n)) listed (fill (l.take n) 0 vs a) W := by
    intro f listed vs W hs ht hall hG hF
    have e := listed_is (n := n) (m := l.length - n) (by omega) hall (fun t h1 h2 => ht t h1 (by omega))
    subst e
    have := seq_more (P := P) (Q' := Q) (ops := l.toArray) (md := .any) f (l.drop n) n (headDone n (l.length - n)) (fill (l.take n) 0 vs a) W (fun j => by simp [List.getElem?_drop]) (by rw [List.length_drop]; exact hseq) (hend vs W _ hG (fun k hk => hF k hk (hall k hk)) _ rfl)
    rw [List.length_drop, Nat.add_comm] at this
    exact this
  intro f
  induction f with
  | zero =>
    intro listed vs W hs ht hc hf hG hF
    refine hdone 0 listed vs W hs ht (fun k hk => ?_) hG hF
    cases e : listed.getD k false with
    | true => rfl
    | false => have := left_pos hk e; omega
  | succ f ih =>
    intro listed vs W hs ht hc hf hG hF
    rcases least_un (listed := listed) n with hall | ⟨i, hi, hun, hlo⟩
    · exact hdone (f + 1) listed vs W hs ht hall hG hF
    · rw [show f + 1 + (l.length - n) = (f + (l.length - n)) + 1 by omega]
      refine ⟨fun h0 => ?_, fun j hj => ?_⟩
      · exfalso
        have hil : i < l.length := by omega
        have : i ∈ Region.ready .any l.toArray listed := by
          refine mem_ready.2 ⟨getD_in (by omega) hun, l[i], by simp [hil], fun e he hb => ?_⟩
          have h1 := List.all_eq_true.1 hlow i (List.mem_range.2 hi)
          rw [List.getElem?_eq_getElem hil] at h1
          have h2 := Array.all_eq_true_iff_forall_mem.1 h1 e he
          rw [hb] at h2
          exact hlo e.on (by simpa using h2)
        rw [h0] at this
        cases this
      · have hjn := hready listed hs ht hc i hi hun j hj
        obtain ⟨hjun, oj, hoj, hall⟩ := mem_ready.1 hj
        have hjl : l[j]? = some oj := by simpa using hoj
        have hjt : (l.take n)[j]? = some oj := by rw [List.getElem?_take_of_lt hjn]; exact hjl
        have hst := stepsD_at (l.take n) 0 j oj (hstep vs W _ hG _ rfl) hjt
        rw [Nat.zero_add] at hst
        have hkn : Known F oj vs W := by
          intro q hq
          obtain ⟨e, he, hb⟩ := Array.any_eq_true'.1 hq
          simp only [Bool.and_eq_true, beq_iff_eq] at hb
          obtain ⟨hb1, hb2⟩ := hb
          have h1 := List.all_eq_true.1 hlow j (List.mem_range.2 hjn)
          rw [hjl] at h1
          have h2 := Array.all_eq_true_iff_forall_mem.1 h1 e he
          rw [hb1] at h2
          have h3 : e.on < j := by simpa using h2
          rw [← hb2]
          exact hF e.on (by omega) (hall e he hb1)
        have hlc : ∀ (k : Nat) (ok : Oper), l.toArray[k]? = some ok → (listed.setIfInBounds j true).getD k false = true → ∀ e ∈ ok.after, Region.binds .any e = true → (listed.setIfInBounds j true).getD e.on false = true := by
          intro k ok hk hl e he hb
          by_cases hjk : j = k
          · subst hjk
            have : ok = oj := Option.some.inj (hk.symm.trans hoj)
            subst this
            exact getD_set_true (hall e he hb)
          · rw [getD_set_ne false hjk] at hl
            exact getD_set_true (hc k ok hk hl e he hb)
        have hnext : ∀ v W', (specAt F j).p v W' → G (upD (dn listed) j) W' → R W W' → wpAny P .any l.toArray Q (f + (l.length - n)) (listed.setIfInBounds j true) ((fill (l.take n) 0 vs a).put oj.dst v) W' := by
          intro v W' hv hG' hR
          have e := fill_upd (v := v) (vs := vs) (l.take n) 0 j a oj hdst hjt
          rw [Nat.zero_add] at e
          rw [← e]
          refine ih _ _ W' (by simp [hs]) (fun t h1 h2 => by rw [getD_set_ne true (by omega)]; exact ht t h1 h2) hlc ?_ (by rw [dn_set (by omega)]; exact hG') ?_
          · have := left_set (n := n) hjn (by omega : j < listed.size) hjun
            omega
          · intro k hk hl
            by_cases hjk : k = j
            · subst hjk; rw [upd_same]; exact hv
            · rw [upd_other _ _ _ hjk]
              rw [getD_set_ne false (Ne.symm hjk)] at hl
              exact (specAt F k).st _ _ _ (hF k hk hl) hR
        have := hst (getD_flip (by omega) hjun) hkn (wpAny P .any l.toArray Q (f + (l.length - n)) (listed.setIfInBounds j true)) hnext
        unfold wpOp
        simp only [hoj]
        split
        · rename_i hw
          rw [if_pos hw] at this
          exact .inl this
        · rename_i hw
          rw [if_neg hw] at this
          exact this

/-- THE RULE. F: what each of the first n operations yields; G: what holds of the world all along; R: how the world turns. -/
theorem wp_drawnD {R : World → World → Prop} {id : Nat} {a : Act} {w : World} (n : Nat) (F : List (DSpec R)) (G : (Nat → Bool) → World → Prop) (hm : P.follows .mixedOrders = true) (hB : planB l n = true) (h0 : G (fun _ => false) w.drew)
    (hstep : ∀ vs W d, G d W → ∀ b, b = fill (l.take n) 0 vs a → StepsD P l.toArray Q F G b vs W d 0 (l.take n))
    (hend : ∀ vs W d, G d W → (∀ k, k < n → (specAt F k).p (vs k) W) → ∀ b, b = fill (l.take n) 0 vs a → wpList P l.toArray Q (l.drop n) b W) : (Code.region id l.toArray true).wp P Q a w := by
  refine wp_region_any hm ?_
  have hn : n ≤ l.length := by
    simp only [planB, Bool.and_eq_true, decide_eq_true_eq] at hB
    exact hB.1.1.1.1
  have := any_orderD (P := P) (Q := Q) (F := F) (G := G) (a := a) hB hstep hend n (Array.replicate l.toArray.size false) (own (l.take n) a) w.drew (by simp) (fun t _ ht => getD_in (by simpa using ht) (getD_replicate_false _ _))
    (fun j oj _ hl => by rw [getD_replicate_false] at hl; cases hl) (by
      unfold left
      exact Nat.le_trans List.countP_le_length (by simp)) (by rw [dn_none]; exact h0) (fun k _ hl => by rw [getD_replicate_false] at hl; cases hl)
  rw [fill_own, show n + (l.length - n) = l.toArray.size by simp; omega] at this
  exact this



theorem g0D {P : Program} {Q : Exit → Act → World → Prop} {R : World → World → Prop} {ops : Array Oper} {F : List (DSpec R)} {G : (Nat → Bool) → World → Prop} {b : Act} {vs : Nat → Value} {W : World} {d : Nat → Bool} {k : Nat} {o : Oper} (h : d k = false → Known F o vs W → ∀ K : Act → World → Prop, (∀ v W', (specAt F k).p v W' → G (upD d k) W' → R W W' → K (b.put o.dst v) W') → Oper.wp P o b W K Q) (hg : o.guard = none := by exact rfl) : StepAtD P ops Q F G b vs W d k o :=
  fun hd hp K hK => g_no hg (h hd hp K hK)
/-- How the world turns while one block is made and filled. -/
def RR (S : Nat) (Z X : Obj) (W W' : World) : Prop := Below S W W' ∧ (W.heap[S]? = some Z → W'.heap[S]? = some Z ∨ W'.heap[S]? = some X) ∧ (W.heap[S]? = some X → W'.heap[S]? = some X)
theorem RR_refl (S : Nat) (Z X : Obj) (W : World) : RR S Z X W W := ⟨Below.refl _ _, .inl, id⟩
theorem RR_new {S : Nat} {Z X : Obj} {W : World} (h : W.heap.size = S) : RR S Z X W (W.alloc Z) := by
  subst h
  have e : W.heap[W.heap.size]? = none := Array.getElem?_eq_none (Nat.le_refl _)
  exact ⟨(Below.refl _ _).alloc (Nat.le_refl _) _, fun h => (by rw [e] at h; cases h), fun h => (by rw [e] at h; cases h)⟩
/-- The pointer to the block, made or filled. -/
def newZX (S : Nat) (Z X : Obj) : DSpec (RR S Z X) := ⟨fun v W => v = .pointer (some ⟨S, 0, none⟩) ∧ (W.heap[S]? = some Z ∨ W.heap[S]? = some X), fun _ _ _ ⟨h1, h2⟩ hr => ⟨h1, h2.elim (fun h => hr.2.1 h) (fun h => .inr (hr.2.2 h))⟩⟩
def fullX (S : Nat) (Z X : Obj) : DSpec (RR S Z X) := ⟨fun _ W => W.heap[S]? = some X, fun _ _ _ h hr => hr.2.2 h⟩
theorem below_setsN : ∀ (l : List Value) (o : Nat) (w W : World) (n g : Nat), Below n w W → n ≤ g → Below n w (W.setCells g o l)
  | [], _, _, _, _, _, h, _ => h
  | v :: r, o, w, W, n, g, h, hg => below_setsN r (o + 1) w _ n g (h.setCell hg _) hg
theorem RR_fill {S : Nat} {t : TypeId} {Z X : Array Value} {W : World} (h : W.heap[S]? = some (.cells Z t (0, 0)) ∨ W.heap[S]? = some (.cells X t (0, 0))) (hs : X.size = Z.size) : RR S (.cells Z t (0, 0)) (.cells X t (0, 0)) W (W.setCells S 0 X.toList) ∧ (W.setCells S 0 X.toList).heap[S]? = some (.cells X t (0, 0)) := by
  have hX : (W.setCells S 0 X.toList).heap[S]? = some (.cells X t (0, 0)) := h.elim (fun h => blk_puts (cs' := X) h hs) (fun h => blk_puts (cs' := X) h rfl)
  exact ⟨⟨below_setsN _ 0 W W S S (Below.refl _ _) (Nat.le_refl _), fun _ => .inr hX, fun _ => hX⟩, hX⟩
end Go.Proofs.Ytieoklpgnmbpjaa.Dr
