/- A region that draws its order, by an invariant: each of its first n operations is walked once, whatever came before it. -/
import Derived.StillTail
import Derived.Below
namespace Go.Proofs.Ytfcimgdogkpbcaa.Dr
open Go
set_option linter.unusedVariables false
set_option linter.unusedSimpArgs false

/-- What is known of an operation's value, for as long as the world turns by R. -/
structure DSpec (R : World → World → Prop) where
  p : Value → World → Prop
  st : ∀ v W W', p v W → R W W' → p v W'
/-- The value is c. -/
def DSpec.val {R : World → World → Prop} (c : Value) : DSpec R := ⟨fun v _ => v = c, fun _ _ _ h _ => h⟩
/-- Nothing is known. -/
def DSpec.any {R : World → World → Prop} : DSpec R := ⟨fun _ _ => True, fun _ _ _ _ _ => trivial⟩
def specAt {R : World → World → Prop} : List (DSpec R) → Nat → DSpec R
  | [], _ => DSpec.any
  | s :: _, 0 => s
  | _ :: l, k + 1 => specAt l k

/-- The slots of operations k, k + 1, .. are set to vs k, vs (k + 1), .. -/
def fill : List Oper → Nat → (Nat → Value) → Act → Act
  | [], _, _, a => a
  | o :: l, k, vs, a => fill l (k + 1) vs (a.put o.dst (vs k))

def noDst (d : Tmp) (l : List Oper) : Bool := l.all fun o => o.dst != some d
def dstsB : List Oper → Bool
  | [] => true
  | o :: l => (match o.dst with | none => true | some d => noDst d l) && dstsB l

theorem put_put (a : Act) (d : Option Tmp) (u v : Value) : (a.put d u).put d v = a.put d v := by
  cases d with
  | none => rfl
  | some d => simp [Act.put]

theorem noDst_cons {d : Tmp} {o : Oper} {l : List Oper} (h : noDst d (o :: l) = true) : o.dst ≠ some d ∧ noDst d l = true := by
  unfold noDst at h
  rw [List.all_cons, Bool.and_eq_true] at h
  exact ⟨by simpa using h.1, h.2⟩

theorem fill_put {d : Tmp} {v : Value} {vs : Nat → Value} : ∀ (l : List Oper) (k : Nat) (a : Act), noDst d l = true → fill l k vs (a.put (some d) v) = (fill l k vs a).put (some d) v
  | [], _, _, _ => rfl
  | o :: l, k, a, h => by
    obtain ⟨h1, h2⟩ := noDst_cons h
    show fill l (k + 1) vs ((a.put (some d) v).put o.dst (vs k)) = _
    rw [Act.put_comm a v (vs k) (fun e he => by intro h'; cases he; exact h1 h')]
    exact fill_put l (k + 1) _ h2

def upd (vs : Nat → Value) (i : Nat) (v : Value) : Nat → Value := fun j => if j = i then v else vs j
theorem upd_same (vs : Nat → Value) (i : Nat) (v : Value) : upd vs i v i = v := if_pos rfl
theorem upd_other (vs : Nat → Value) (i : Nat) (v : Value) {j : Nat} (h : j ≠ i) : upd vs i v j = vs j := if_neg h

theorem fill_congr {us vs : Nat → Value} : ∀ (l : List Oper) (k : Nat) (a : Act), (∀ j, k ≤ j → us j = vs j) → fill l k us a = fill l k vs a
  | [], _, _, _ => rfl
  | o :: l, k, a, h => by
    show fill l (k + 1) us (a.put o.dst (us k)) = fill l (k + 1) vs (a.put o.dst (vs k))
    rw [h k (Nat.le_refl _)]
    exact fill_congr l (k + 1) _ (fun j hj => h j (by omega))

theorem fill_upd {v : Value} {vs : Nat → Value} : ∀ (l : List Oper) (k i : Nat) (a : Act) (o : Oper), dstsB l = true → l[i]? = some o → fill l k (upd vs (k + i) v) a = (fill l k vs a).put o.dst v
  | [], _, _, _, _, _, h => by simp at h
  | o' :: l, k, 0, a, o, hd, h => by
    obtain rfl : o' = o := by simpa using h
    simp only [dstsB, Bool.and_eq_true] at hd
    show fill l (k + 1) (upd vs k v) (a.put o'.dst (upd vs k v k)) = (fill l (k + 1) vs (a.put o'.dst (vs k))).put o'.dst v
    rw [upd_same, fill_congr l (k + 1) (us := upd vs k v) (vs := vs) _ (fun j hj => upd_other _ _ _ (by omega))]
    cases e : o'.dst with
    | none => rfl
    | some d =>
      rw [e] at hd
      rw [← fill_put l (k + 1) _ hd.1, put_put]
  | o' :: l, k, i + 1, a, o, hd, h => by
    simp only [dstsB, Bool.and_eq_true] at hd
    show fill l (k + 1) (upd vs (k + (i + 1)) v) (a.put o'.dst (upd vs (k + (i + 1)) v k)) = (fill l (k + 1) vs (a.put o'.dst (vs k))).put o.dst v
    rw [upd_other _ _ _ (by omega), show k + (i + 1) = k + 1 + i by omega]
    exact fill_upd l (k + 1) i _ o hd.2 (by simpa using h)

theorem put_self (a : Act) (d : Tmp) : a.put (some d) (a.tmps.getD d undef) = a := by
  have : a.tmps.setIfInBounds d (a.tmps.getD d undef) = a.tmps := by
    apply Array.ext_getElem?
    intro i
    by_cases h : d = i
    · subst h
      rw [Array.getElem?_setIfInBounds]
      by_cases h' : d < a.tmps.size
      · simp [h']
      · simp [h']
    · rw [Array.getElem?_setIfInBounds_ne h]
  show { a with tmps := _ } = a
  rw [this]

/-- What stands in the slots of ops. -/
def own (l : List Oper) (a : Act) : Nat → Value := fun k => match (l[k]?).bind (·.dst) with | some d => a.tmps.getD d undef | none => undef
theorem fill_self : ∀ (l : List Oper) (k : Nat) (a : Act) (vs : Nat → Value), (∀ j o d, l[j]? = some o → o.dst = some d → vs (k + j) = a.tmps.getD d undef) → fill l k vs a = a
  | [], _, _, _, _ => rfl
  | o :: l, k, a, vs, h => by
    have e : a.put o.dst (vs k) = a := by
      cases hd : o.dst with
      | none => rfl
      | some d => rw [show vs k = a.tmps.getD d undef from h 0 o d rfl hd]; exact put_self a d
    show fill l (k + 1) vs (a.put o.dst (vs k)) = a
    rw [e]
    exact fill_self l (k + 1) a vs (fun j o' d ho hd => by have := h (j + 1) o' d (by simpa using ho) hd; rwa [show k + 1 + j = k + (j + 1) by omega])
theorem fill_own (l : List Oper) (a : Act) : fill l 0 (own l a) a = a := fill_self l 0 a _ (fun j o d ho hd => by unfold own; simp [ho, hd])

/-- Outside the slots of l nothing turns. -/
theorem fill_out {t : Tmp} {vs : Nat → Value} : ∀ (l : List Oper) (k : Nat) (a : Act), noDst t l = true → (fill l k vs a).eval (.tmp t) = a.eval (.tmp t)
  | [], _, _, _ => rfl
  | o :: l, k, a, h => by
    obtain ⟨h1, h2⟩ := noDst_cons h
    show (fill l (k + 1) vs (a.put o.dst (vs k))).eval (.tmp t) = _
    rw [fill_out l (k + 1) _ h2]
    exact Act.eval_put (fun d hd e => h1 (by rw [hd]; injection e with e; rw [e]))

theorem put_eval (a : Act) (d : Tmp) (v : Value) (h : d < a.tmps.size) : (a.put (some d) v).eval (.tmp d) = v := by
  simp [Act.eval, Act.put, h]
theorem put_size (a : Act) (d : Option Tmp) (v : Value) : (a.put d v).tmps.size = a.tmps.size := by
  cases d <;> simp [Act.put]
theorem fill_size {vs : Nat → Value} : ∀ (l : List Oper) (k : Nat) (a : Act), (fill l k vs a).tmps.size = a.tmps.size
  | [], _, _ => rfl
  | o :: l, k, a => by
    show (fill l (k + 1) vs (a.put o.dst (vs k))).tmps.size = _
    rw [fill_size l, put_size]
/-- The slot of operation i holds vs i. -/
theorem fill_in {vs : Nat → Value} : ∀ (l : List Oper) (k i : Nat) (a : Act) (o : Oper) (d : Tmp), dstsB l = true → l[i]? = some o → o.dst = some d → d < a.tmps.size → (fill l k vs a).eval (.tmp d) = vs (k + i)
  | [], _, _, _, _, _, _, h, _, _ => by simp at h
  | o' :: l, k, 0, a, o, d, hd, h, hdst, hs => by
    obtain rfl : o' = o := by simpa using h
    simp only [dstsB, Bool.and_eq_true] at hd
    show (fill l (k + 1) vs (a.put o'.dst (vs k))).eval (.tmp d) = vs k
    rw [hdst] at hd ⊢
    rw [fill_out l (k + 1) _ hd.1]
    exact put_eval a d _ hs
  | o' :: l, k, i + 1, a, o, d, hd, h, hdst, hs => by
    simp only [dstsB, Bool.and_eq_true] at hd
    show (fill l (k + 1) vs (a.put o'.dst (vs k))).eval (.tmp d) = _
    rw [show k + (i + 1) = k + 1 + i by omega]
    exact fill_in l (k + 1) i _ o d hd.2 (by simpa using h) hdst (by rw [put_size]; exact hs)

/-! ### The order -/
/-- Each of the first n waits for earlier ones alone. -/
def lowB (l : List Oper) (n : Nat) : Bool :=
  (List.range n).all fun k => match l[k]? with | some o => o.after.all fun e => !Region.binds .any e || decide (e.on < k) | none => true
def headDone (n m : Nat) : Array Bool := (List.replicate n true ++ List.replicate m false).toArray
/-- The first n in whatever order, then the rest as they stand. -/
def planB (l : List Oper) (n : Nat) : Bool :=
  decide (n ≤ l.length) && lowB l n && dstsB (l.take n) &&
  (decide (n = l.length) || (Region.sinkB .any l.toArray n && Region.chainB .any l.toArray n)) &&
  Region.seqB .any l.toArray (l.length - n) n (headDone n (l.length - n))

section
variable {P : Program} {l : List Oper} {n : Nat} {Q : Exit → Act → World → Prop}

theorem seq_more {Q' : Exit → Act → World → Prop} {ops : Array Oper} {md : Region.Mode} (x : Nat) : ∀ (l : List Oper) (k : Nat) (listed : Array Bool) (a : Act) (w : World), (∀ j, l[j]? = ops[k + j]?) →
    Region.seqB md ops l.length k listed = true → wpList P ops Q' l a w → wpAny P md ops Q' (l.length + x) listed a w
  | [], _, listed, a, w, _, hB, h => by
    have h0 : Region.ready md ops listed = [] := by simpa [Region.seqB] using hB
    rw [show ([] : List Oper).length + x = x from Nat.zero_add x]
    exact wpAny_done h0 h x
  | o :: l, k, listed, a, w, hl, hB, h => by
    have h0 : ops[k]? = some o := by simpa using (hl 0).symm
    simp only [List.length_cons, Region.seqB, Bool.and_eq_true, decide_eq_true_eq] at hB
    rw [show (o :: l).length + x = (l.length + x) + 1 by simp; omega]
    refine ⟨fun h1 => (by rw [hB.1] at h1; cases h1), fun i hi => ?_⟩
    rw [hB.1] at hi
    have hik : i = k := by simpa using hi
    subst hik
    have hw : wpOp P ops Q' i (wpList P ops Q' l) a w := by unfold wpOp; simp only [h0]; exact h
    exact wpOp_mono (fun a' w' h' => seq_more x l (i + 1) _ a' w' (fun j => by have := hl (j + 1); simpa [Nat.add_assoc, Nat.add_comm 1 j] using this) hB.2 h') hw

def left (n : Nat) (listed : Array Bool) : Nat := (List.range n).countP fun k => !listed.getD k false

theorem countP_lt {p q : Nat → Bool} {i : Nat} (hpq : ∀ k, q k = true → p k = true) (hp : p i = true) (hq : q i = false) : ∀ r : List Nat, i ∈ r → r.countP q < r.countP p
  | [], h => by cases h
  | k :: r, h => by
    have hle : ∀ r : List Nat, r.countP q ≤ r.countP p := fun r => List.countP_mono_left (fun x _ => hpq x)
    rw [List.countP_cons, List.countP_cons]
    rcases List.mem_cons.1 h with rfl | h
    · have := hle r
      rw [hp, hq]
      simp
      omega
    · have := countP_lt hpq hp hq r h
      have hk := hpq k
      cases hqk : q k <;> cases hpk : p k <;> simp [hqk, hpk] at hk ⊢ <;> omega

theorem left_set {listed : Array Bool} {i : Nat} (hi : i < n) (hs : i < listed.size) (hun : listed.getD i true = false) : left n (listed.setIfInBounds i true) < left n listed := by
  unfold left
  refine countP_lt (i := i) (fun k hk => ?_) ?_ ?_ _ (List.mem_range.2 hi)
  · cases e : listed.getD k false with
    | false => rfl
    | true => rw [getD_set_true e] at hk; exact hk
  · rw [getD_both hun]; rfl
  · simp [hs]

theorem left_pos {listed : Array Bool} {i : Nat} (hi : i < n) (hun : listed.getD i false = false) : 0 < left n listed := by
  unfold left
  rw [List.countP_pos_iff]
  exact ⟨i, List.mem_range.2 hi, by rw [hun]; rfl⟩

theorem left_zero {listed : Array Bool} (h : ∀ k, k < n → listed.getD k false = true) : left n listed = 0 := by
  unfold left
  rw [List.countP_eq_zero]
  intro k hk
  rw [h k (List.mem_range.1 hk)]
  simp

theorem least_un {listed : Array Bool} : ∀ m, (∀ k, k < m → listed.getD k false = true) ∨ ∃ i, i < m ∧ listed.getD i false = false ∧ ∀ k, k < i → listed.getD k false = true
  | 0 => .inl (fun k hk => by omega)
  | m + 1 => by
    rcases least_un m with h | ⟨i, hi, h1, h2⟩
    · cases e : listed.getD m false with
      | true => exact .inl (fun k hk => by by_cases hkm : k = m; (subst hkm; exact e); exact h k (by omega))
      | false => exact .inr ⟨m, by omega, e, h⟩
    · exact .inr ⟨i, by omega, h1, h2⟩

theorem listed_is {listed : Array Bool} {m : Nat} (hs : listed.size = n + m) (h1 : ∀ k, k < n → listed.getD k false = true) (h2 : ∀ t, n ≤ t → t < n + m → listed.getD t true = false) : listed = headDone n m := by
  apply Array.ext_getElem?
  intro i
  have e : (headDone n m)[i]? = (List.replicate n true ++ List.replicate m false)[i]? := List.getElem?_toArray
  rw [e]
  by_cases h : i < n
  · have := h1 i h
    rw [List.getElem?_append_left (by simpa using h), List.getElem?_replicate, if_pos h]
    have hi : i < listed.size := by omega
    simp [hi] at this ⊢
    exact this
  · rw [List.getElem?_append_right (by simp; omega), List.length_replicate, List.getElem?_replicate]
    by_cases h' : i < n + m
    · rw [if_pos (by omega)]
      have := h2 i (by omega) h'
      have hi : i < listed.size := by omega
      simp [hi] at this ⊢
      exact this
    · rw [if_neg (by omega)]
      exact Array.getElem?_eq_none (by omega)

/-- What an operation that waits for others may take for granted. -/
def Known {R : World → World → Prop} (F : List (DSpec R)) (o : Oper) (vs : Nat → Value) (W : World) : Prop :=
  ∀ j, (o.after.any fun e => Region.binds .any e && e.on == j) = true → (specAt F j).p (vs j) W

/-- Operation k of the region, whatever came before it. -/
def StepAt {R : World → World → Prop} (P : Program) (ops : Array Oper) (Q : Exit → Act → World → Prop) (F : List (DSpec R)) (G : World → Prop) (b : Act) (vs : Nat → Value) (W : World) (k : Nat) (o : Oper) : Prop :=
  Known F o vs W → ∀ K : Act → World → Prop, (∀ v W', (specAt F k).p v W' → G W' → R W W' → K (b.put o.dst v) W') → if Region.wanted o (yielded ops b.tmps) = true then Oper.wp P o b W K Q else K (b.put o.dst undef) W
def Steps {R : World → World → Prop} (P : Program) (ops : Array Oper) (Q : Exit → Act → World → Prop) (F : List (DSpec R)) (G : World → Prop) (b : Act) (vs : Nat → Value) (W : World) : Nat → List Oper → Prop
  | _, [] => True
  | k, o :: l => StepAt P ops Q F G b vs W k o ∧ Steps P ops Q F G b vs W (k + 1) l
theorem steps_at {R : World → World → Prop} {ops : Array Oper} {F : List (DSpec R)} {G : World → Prop} {b : Act} {vs : Nat → Value} {W : World} : ∀ (l : List Oper) (k i : Nat) (o : Oper), Steps P ops Q F G b vs W k l → l[i]? = some o → StepAt P ops Q F G b vs W (k + i) o
  | [], _, _, _, _, h => by simp at h
  | o' :: l, k, 0, o, hs, h => by
    obtain rfl : o' = o := by simpa using h
    exact hs.1
  | o' :: l, k, i + 1, o, hs, h => by
    rw [show k + (i + 1) = k + 1 + i by omega]
    exact steps_at l (k + 1) i o hs.2 (by simpa using h)

theorem any_order {R : World → World → Prop} {F : List (DSpec R)} {G : World → Prop} {a : Act} (hB : planB l n = true)
    (hstep : ∀ vs W, G W → ∀ b, b = fill (l.take n) 0 vs a → Steps P l.toArray Q F G b vs W 0 (l.take n))
    (hend : ∀ vs W, G W → (∀ k, k < n → (specAt F k).p (vs k) W) → ∀ b, b = fill (l.take n) 0 vs a → wpList P l.toArray Q (l.drop n) b W) :
    ∀ (f : Nat) (listed : Array Bool) (vs : Nat → Value) (W : World), listed.size = l.length → (∀ t, n ≤ t → t < l.length → listed.getD t true = false) →
      (∀ (j : Nat) oj, l.toArray[j]? = some oj → listed.getD j false = true → ∀ e ∈ oj.after, Region.binds .any e = true → listed.getD e.on false = true) →
      left n listed ≤ f → G W → (∀ k, k < n → listed.getD k false = true → (specAt F k).p (vs k) W) → wpAny P .any l.toArray Q (f + (l.length - n)) listed (fill (l.take n) 0 vs a) W := by
  simp only [planB, Bool.and_eq_true, Bool.or_eq_true, decide_eq_true_eq] at hB
  obtain ⟨⟨⟨⟨hn, hlow⟩, hdst⟩, hsc⟩, hseq⟩ := hB
  have hready : ∀ listed : Array Bool, listed.size = l.length → (∀ t, n ≤ t → t < l.length → listed.getD t true = false) →
      (∀ (j : Nat) oj, l.toArray[j]? = some oj → listed.getD j false = true → ∀ e ∈ oj.after, Region.binds .any e = true → listed.getD e.on false = true) →
      ∀ i, i < n → listed.getD i false = false → ∀ j ∈ Region.ready .any l.toArray listed, j < n := by
    intro listed hs ht hc i hi hun j hj
    obtain ⟨_, oj, hoj, _⟩ := mem_ready.1 hj
    have hjl : j < l.length := by have := (Array.getElem?_eq_some_iff.1 hoj).1; simpa using this
    rcases hsc with h | ⟨hsink, hchain⟩
    · omega
    · by_cases h : n = l.length
      · omega
      · rcases Nat.lt_or_ge j n with h' | h'
        · exact h'
        · exact absurd hj (tail_waits hsink hchain (by simp; omega) ⟨by simpa using hs, hc, fun t h1 h2 => ht t h1 (by simpa using h2)⟩ _ i rfl hi (getD_in (by omega) hun) j h')
  have hdone : ∀ (f : Nat) (listed : Array Bool) (vs : Nat → Value) (W : World), listed.size = l.length → (∀ t, n ≤ t → t < l.length → listed.getD t true = false) → (∀ k, k < n → listed.getD k false = true) → G W → (∀ k, k < n → listed.getD k false = true → (specAt F k).p (vs k) W) → wpAny P .any l.toArray Q (f + (l.length - n)) listed (fill (l.take n) 0 vs a) W := by
    intro f listed vs W hs ht hall hG hF
    have e := listed_is (n := n) (m := l.length - n) (by omega) hall (fun t h1 h2 => ht t h1 (by omega))
    subst e
    have := seq_more (P := P) (Q' := Q) (ops := l.toArray) (md := .any) f (l.drop n) n (headDone n (l.length - n)) (fill (l.take n) 0 vs a) W (fun j => by simp [List.getElem?_drop]) (by rw [List.length_drop]; exact hseq) (hend vs W hG (fun k hk => hF k hk (hall k hk)) _ rfl)
    rw [List.length_drop, Nat.add_comm] at this
    exact this
  intro f
  induction f with
  | zero =>
    intro listed vs W hs ht hc hf hG hF
    refine hdone 0 listed vs W hs ht (fun k hk => ?_) hG hF
    cases e : listed.getD k false with
    | true => rfl
    | false => have := left_pos hk e; omega
  | succ f ih =>
    intro listed vs W hs ht hc hf hG hF
    rcases least_un (listed := listed) n with hall | ⟨i, hi, hun, hlo⟩
    · exact hdone (f + 1) listed vs W hs ht hall hG hF
    · rw [show f + 1 + (l.length - n) = (f + (l.length - n)) + 1 by omega]
      refine ⟨fun h0 => ?_, fun j hj => ?_⟩
      · exfalso
        have hil : i < l.length := by omega
        have : i ∈ Region.ready .any l.toArray listed := by
          refine mem_ready.2 ⟨getD_in (by omega) hun, l[i], by simp [hil], fun e he hb => ?_⟩
          have h1 := List.all_eq_true.1 hlow i (List.mem_range.2 hi)
          rw [List.getElem?_eq_getElem hil] at h1
          have h2 := Array.all_eq_true_iff_forall_mem.1 h1 e he
          rw [hb] at h2
          exact hlo e.on (by simpa using h2)
        rw [h0] at this
        cases this
      · have hjn := hready listed hs ht hc i hi hun j hj
        obtain ⟨hjun, oj, hoj, hall⟩ := mem_ready.1 hj
        have hjl : l[j]? = some oj := by simpa using hoj
        have hjt : (l.take n)[j]? = some oj := by rw [List.getElem?_take_of_lt hjn]; exact hjl
        have hst := steps_at (l.take n) 0 j oj (hstep vs W hG _ rfl) hjt
        rw [Nat.zero_add] at hst
        have hkn : Known F oj vs W := by
          intro q hq
          obtain ⟨e, he, hb⟩ := Array.any_eq_true'.1 hq
          simp only [Bool.and_eq_true, beq_iff_eq] at hb
          obtain ⟨hb1, hb2⟩ := hb
          have h1 := List.all_eq_true.1 hlow j (List.mem_range.2 hjn)
          rw [hjl] at h1
          have h2 := Array.all_eq_true_iff_forall_mem.1 h1 e he
          rw [hb1] at h2
          have h3 : e.on < j := by simpa using h2
          rw [← hb2]
          exact hF e.on (by omega) (hall e he hb1)
        have hlc : ∀ (k : Nat) (ok : Oper), l.toArray[k]? = some ok → (listed.setIfInBounds j true).getD k false = true → ∀ e ∈ ok.after, Region.binds .any e = true → (listed.setIfInBounds j true).getD e.on false = true := by
          intro k ok hk hl e he hb
          by_cases hjk : j = k
          · subst hjk
            have : ok = oj := Option.some.inj (hk.symm.trans hoj)
            subst this
            exact getD_set_true (hall e he hb)
          · rw [getD_set_ne false hjk] at hl
            exact getD_set_true (hc k ok hk hl e he hb)
        have hnext : ∀ v W', (specAt F j).p v W' → G W' → R W W' → wpAny P .any l.toArray Q (f + (l.length - n)) (listed.setIfInBounds j true) ((fill (l.take n) 0 vs a).put oj.dst v) W' := by
          intro v W' hv hG' hR
          have e := fill_upd (v := v) (vs := vs) (l.take n) 0 j a oj hdst hjt
          rw [Nat.zero_add] at e
          rw [← e]
          refine ih _ _ W' (by simp [hs]) (fun t h1 h2 => by rw [getD_set_ne true (by omega)]; exact ht t h1 h2) hlc ?_ hG' ?_
          · have := left_set (n := n) hjn (by omega : j < listed.size) hjun
            omega
          · intro k hk hl
            by_cases hjk : k = j
            · subst hjk; rw [upd_same]; exact hv
            · rw [upd_other _ _ _ hjk]
              rw [getD_set_ne false (Ne.symm hjk)] at hl
              exact (specAt F k).st _ _ _ (hF k hk hl) hR
        have := hst hkn (wpAny P .any l.toArray Q (f + (l.length - n)) (listed.setIfInBounds j true)) hnext
        unfold wpOp
        simp only [hoj]
        split
        · rename_i hw
          rw [if_pos hw] at this
          exact .inl this
        · rename_i hw
          rw [if_neg hw] at this
          exact this

/-- THE RULE. F: what each of the first n operations yields; G: what holds of the world all along; R: how the world turns. -/
theorem wp_drawn {R : World → World → Prop} {id : Nat} {a : Act} {w : World} (n : Nat) (F : List (DSpec R)) (G : World → Prop) (hm : P.follows .mixedOrders = true) (hB : planB l n = true) (h0 : G w.drew)
    (hstep : ∀ vs W, G W → ∀ b, b = fill (l.take n) 0 vs a → Steps P l.toArray Q F G b vs W 0 (l.take n))
    (hend : ∀ vs W, G W → (∀ k, k < n → (specAt F k).p (vs k) W) → ∀ b, b = fill (l.take n) 0 vs a → wpList P l.toArray Q (l.drop n) b W) : (Code.region id l.toArray true).wp P Q a w := by
  refine wp_region_any hm ?_
  have hn : n ≤ l.length := by
    simp only [planB, Bool.and_eq_true, decide_eq_true_eq] at hB
    exact hB.1.1.1.1
  have := any_order (P := P) (Q := Q) (F := F) (G := G) (a := a) hB hstep hend n (Array.replicate l.toArray.size false) (own (l.take n) a) w.drew (by simp) (fun t _ ht => getD_in (by simpa using ht) (getD_replicate_false _ _))
    (fun j oj _ hl => by rw [getD_replicate_false] at hl; cases hl) (by
      unfold left
      exact Nat.le_trans List.countP_le_length (by simp)) h0 (fun k _ hl => by rw [getD_replicate_false] at hl; cases hl)
  rw [fill_own, show n + (l.length - n) = l.toArray.size by simp; omega] at this
  exact this


/-- A region that keeps its order, by the same steps, as far as operation n. -/
theorem listed_order {R : World → World → Prop} {F : List (DSpec R)} {G : World → Prop} {a : Act} {l : List Oper} {n : Nat} (hn : n ≤ l.length) (hd : dstsB (l.take n) = true) (hlow : lowB l n = true)
    (hstep : ∀ vs W, G W → ∀ b, b = fill (l.take n) 0 vs a → Steps P l.toArray Q F G b vs W 0 (l.take n))
    (hend : ∀ vs W, G W → (∀ k, k < n → (specAt F k).p (vs k) W) → ∀ b, b = fill (l.take n) 0 vs a → wpList P l.toArray Q (l.drop n) b W) :
    ∀ (d k : Nat) (vs : Nat → Value) (W : World), n = k + d → G W → (∀ j, j < k → (specAt F j).p (vs j) W) → wpList P l.toArray Q (l.drop k) (fill (l.take n) 0 vs a) W
  | 0, k, vs, W, hk, hG, hF => by
    obtain rfl : n = k := by omega
    exact hend vs W hG hF _ rfl
  | d + 1, k, vs, W, hk, hG, hF => by
    have hkn : k < n := by omega
    have hkl : k < l.length := by omega
    have ho : l[k]? = some l[k] := List.getElem?_eq_getElem hkl
    have hot : (l.take n)[k]? = some l[k] := by rw [List.getElem?_take_of_lt hkn]; exact ho
    have hst := steps_at (l.take n) 0 k _ (hstep vs W hG _ rfl) hot
    rw [Nat.zero_add] at hst
    have hknown : Known F l[k] vs W := by
      intro q hq
      obtain ⟨e, he, hb⟩ := Array.any_eq_true'.1 hq
      simp only [Bool.and_eq_true, beq_iff_eq] at hb
      have h1 := List.all_eq_true.1 hlow k (List.mem_range.2 hkn)
      rw [ho] at h1
      have h2 := Array.all_eq_true_iff_forall_mem.1 h1 e he
      rw [hb.1] at h2
      have h3 : e.on < k := by simpa using h2
      exact hF q (by omega)
    rw [List.drop_eq_getElem_cons hkl]
    refine wpList_step fun K hK => hst hknown K (fun v W' hv hG' hR => hK _ _ ?_)
    have e := fill_upd (v := v) (vs := vs) (l.take n) 0 k a _ hd hot
    rw [Nat.zero_add] at e
    rw [← e]
    refine listed_order hn hd hlow hstep hend d (k + 1) _ W' (by omega) hG' (fun j hj => ?_)
    by_cases hjk : j = k
    · subst hjk; rw [upd_same]; exact hv
    · rw [upd_other _ _ _ hjk]; exact (specAt F j).st _ _ _ (hF j (by omega)) hR
def listB (l : List Oper) (n : Nat) : Bool := decide (n ≤ l.length) && dstsB (l.take n) && lowB l n
theorem wp_listed {R : World → World → Prop} {id : Nat} {a : Act} {w : World} {l : List Oper} (n : Nat) (F : List (DSpec R)) (G : World → Prop) (hB : listB l n = true) (h0 : G w)
    (hstep : ∀ vs W, G W → ∀ b, b = fill (l.take n) 0 vs a → Steps P l.toArray Q F G b vs W 0 (l.take n))
    (hend : ∀ vs W, G W → (∀ k, k < n → (specAt F k).p (vs k) W) → ∀ b, b = fill (l.take n) 0 vs a → wpList P l.toArray Q (l.drop n) b W) : (Code.region id l.toArray false).wp P Q a w := by
  simp only [listB, Bool.and_eq_true, decide_eq_true_eq] at hB
  refine wp_region_lit ?_
  have := listed_order (P := P) (Q := Q) hB.1.1 hB.1.2 hB.2 hstep hend n 0 (own (l.take n) a) w (Nat.zero_add _).symm h0 (fun j hj => by omega)
  rwa [fill_own] at this

/-! ### A loop whose rounds write some slots -/
/-- What stands in a slot. -/
def Slot (a : Act) (t : Tmp) : Value := a.tmps.getD t undef
def setSlots : List Tmp → (Tmp → Value) → Act → Act
  | [], _, a => a
  | t :: l, vs, a => setSlots l vs (a.put (some t) (vs t))
theorem setSlots_self : ∀ (l : List Tmp) (a : Act), setSlots l (Slot a) a = a
  | [], _ => rfl
  | t :: l, a => by
    show setSlots l (Slot a) (a.put (some t) (Slot a t)) = a
    rw [show a.put (some t) (Slot a t) = a from put_self a t]
    exact setSlots_self l a
theorem loop_frame {ws : List Tmp} {a a' : Act} (h : a' = setSlots ws (Slot a') a) : ∃ vs, a' = setSlots ws vs a := ⟨_, h⟩
theorem wp_loopS {a : Act} {w : World} {c : Code} (ws : List Tmp) (I : (Tmp → Value) → World → Prop) (μ : (Tmp → Value) → World → Nat) (h0 : I (Slot a) w)
    (round : ∀ vs W b, b = setSlots ws vs a → I (Slot b) W → c.wp P (Exit.then (fun a' W' => (∃ vs', a' = setSlots ws vs' a) ∧ I (Slot a') W' ∧ μ (Slot a') W' < μ (Slot b) W) Q) b W) : (Code.loop c).wp P Q a w := by
  refine wp_loop (fun a' w' => (∃ vs, a' = setSlots ws vs a) ∧ I (Slot a') w') (fun a' w' => μ (Slot a') w') ⟨⟨Slot a, (setSlots_self ws a).symm⟩, h0⟩ ?_
  rintro a' w' ⟨⟨vs, h⟩, hI⟩
  refine Code.wp_mono ?_ (round vs w' a' h hI)
  intro e a2 w2 q
  cases e with
  | normal => exact ⟨⟨q.1, q.2.1⟩, q.2.2⟩
  | _ => exact q

/-- No guard. -/
theorem g_no {ops : Array Oper} {o : Oper} {b : Act} {W : World} {K : Act → World → Prop} (hg : o.guard = none) (h : Oper.wp P o b W K Q) : if Region.wanted o (yielded ops b.tmps) = true then Oper.wp P o b W K Q else K (b.put o.dst undef) W := by
  rw [if_pos (by simp [Region.wanted, hg])]
  exact h
theorem yielded_of {ops : Array Oper} {oj : Oper} {b : Act} {j : Nat} {d : Tmp} {c : Bool} (ho : ops[j]? = some oj) (hd : oj.dst = some d) (he : b.eval (.tmp d) = .bool c) : yielded ops b.tmps j = some c := by
  unfold yielded
  rw [ho]
  simp only [Option.bind_some, hd]
  have e : b.tmps.getD d undef = .bool c := he
  by_cases h : d < b.tmps.size
  · have e' : b.tmps[d]? = some (.bool c) := by
      rw [← e]
      simp [h]
    rw [e']
  · rw [Array.getD_eq_getD_getElem?, Array.getElem?_eq_none (Nat.le_of_not_lt h)] at e
    cases e
/-- A guard: the operation is carried out just if operation j's Bool is 'want'. -/
theorem g_is {ops : Array Oper} {o : Oper} {b : Act} {W : World} {K : Act → World → Prop} {j : Nat} {want c : Bool} (hg : o.guard = some (j, want)) (hy : yielded ops b.tmps j = some c) (h1 : c = want → Oper.wp P o b W K Q) (h0 : c ≠ want → K (b.put o.dst undef) W) : if Region.wanted o (yielded ops b.tmps) = true then Oper.wp P o b W K Q else K (b.put o.dst undef) W := by
  have e : Region.wanted o (yielded ops b.tmps) = (c == want) := by
    simp only [Region.wanted, hg, hy]
    cases c <;> cases want <;> rfl
  rw [e]
  by_cases h : c = want
  · rw [if_pos (by rw [h]; cases want <;> rfl)]
    exact h1 h
  · rw [if_neg (by intro h'; exact h (by simpa using h'))]
    exact h0 h
/-! ### One operation, by its kind -/
variable {o : Oper} {b : Act} {W : World} {K : Act → World → Prop} {ops : Array Oper}
theorem st_run {v : Value} {W' : World} (h : (execOp b.eval o).run P W = .ok (.value v) W') (hK : K (b.put o.dst v) W') : Oper.wp P o b W K Q := by
  unfold Oper.wp
  rw [h]
  exact hK
theorem run_v {s : Sem Value} {v : Value} {W' : World} (h : s.run P W = .ok v W') : (do pure (Next.value (← s)) : Sem Next).run P W = .ok (.value v) W' := by
  simp [h, go_sem]
theorem st_move {x : Operand} {v : Value} (ho : o.op = .move x ∨ o.op = .assign x) (hx : b.eval x = v) (hK : K (b.put o.dst v) W) : Oper.wp P o b W K Q := by
  refine st_run ?_ hK
  unfold execOp
  rcases ho with ho | ho <;> (rw [ho]; simp only [hx]; rfl)
theorem st_load {t : TypeId} {x : Operand} {ad : Addr} {v : Value} (ho : o.op = .load t x) (hx : b.eval x = .pointer (some ad)) (h : (loadVar t ad).run P W = .ok v W) (hK : K (b.put o.dst v) W) : Oper.wp P o b W K Q := by
  refine st_run ?_ hK
  unfold execOp
  rw [ho]
  simp only [hx]
  refine run_v ?_
  exact h
theorem st_index {t : TypeId} {x i : Operand} {X I v : Value} (ho : o.op = .indexAddr t x i) (hx : b.eval x = X) (hi : b.eval i = I) (h : (Instr.indexAt t X I).run P W = .ok v W) (hK : K (b.put o.dst v) W) : Oper.wp P o b W K Q := by
  refine st_run ?_ hK
  unfold execOp
  rw [ho]
  simp only [hx, hi]
  exact run_v h
theorem st_field {t : TypeId} {x : Operand} {f : Nat} {X v : Value} (ho : o.op = .fieldAddr t x f) (hx : b.eval x = X) (h : (Instr.fieldAt t X f).run P W = .ok v W) (hK : K (b.put o.dst v) W) : Oper.wp P o b W K Q := by
  refine st_run ?_ hK
  unfold execOp
  rw [ho]
  simp only [hx]
  exact run_v h
theorem st_extract {x : Operand} {f : Nat} {X v : Value} (ho : o.op = .extract x f) (hx : b.eval x = X) (h : (Instr.extract X f).run P W = .ok v W) (hK : K (b.put o.dst v) W) : Oper.wp P o b W K Q := by
  refine st_run ?_ hK
  unfold execOp
  rw [ho]
  simp only [hx]
  exact run_v h
theorem st_build {t : TypeId} {parts : Array (Nat × Operand)} {ps : Array (Nat × Value)} {v : Value} (ho : o.op = .build t parts) (hx : (parts.map fun (i, x) => (i, b.eval x)) = ps) (h : (Instr.build t ps).run P W = .ok v W) (hK : K (b.put o.dst v) W) : Oper.wp P o b W K Q := by
  refine st_run ?_ hK
  unfold execOp
  rw [ho]
  simp only [hx]
  exact run_v h
theorem st_buildSlice {t : TypeId} {n : Nat} {parts : Array (Nat × Operand)} {ps : Array (Nat × Value)} {v : Value} {W' : World} (ho : o.op = .buildSlice t n parts) (hx : (parts.map fun (i, x) => (i, b.eval x)) = ps) (h : (Instr.buildSlice t n ps).run P W = .ok v W') (hK : K (b.put o.dst v) W') : Oper.wp P o b W K Q := by
  refine st_run ?_ hK
  unfold execOp
  rw [ho]
  simp only [hx]
  exact run_v h
theorem st_builtin {bi : Builtin} {args : Array Operand} {ats : Array TypeId} {vals : Array Value} {v : Value} {W' : World} (ho : o.op = .call { callee := .builtin bi, args := args, argTypes := ats }) (hx : args.map b.eval = vals)
    (h : ∀ cs, (builtin bi ats o.type cs vals).run P W = .ok (.value v) W') (hK : K (b.put o.dst v) W') : Oper.wp P o b W K Q := by
  refine st_run ?_ hK
  unfold execOp
  rw [ho]
  simp only [resolve, hx]
  rw [Sem.run_bind]
  simp only [Sem.run_pure, Result.andThen_ok, invoke]
  exact h _
theorem st_bin {t t' : TypeId} {op : BinOp} {x y : Operand} {X Y v : Value} (ho : o.op = .binOp op t x y t') (hx : b.eval x = X) (hy : b.eval y = Y) (h : (do eqGuard op t x y X Y; binOp op t X Y : Sem Value).run P W = .ok v W) (hK : K (b.put o.dst v) W) : Oper.wp P o b W K Q := by
  refine st_run ?_ hK
  unfold execOp
  rw [ho]
  simp only [hx, hy]
  exact run_v h
theorem st_un {t : TypeId} {op : UnOp} {x : Operand} {X v : Value} (ho : o.op = .unOp op t x) (hx : b.eval x = X) (h : (Op.unary op X).run P W = .ok v W) (hK : K (b.put o.dst v) W) : Oper.wp P o b W K Q := by
  refine st_run ?_ hK
  unfold execOp
  rw [ho]
  simp only [hx]
  exact run_v h
theorem st_conv {t t' : TypeId} {x : Operand} {X v : Value} (ho : o.op = .convert t t' x) (hx : b.eval x = X) (h : (convert t t' X).run P W = .ok v W) (hK : K (b.put o.dst v) W) : Oper.wp P o b W K Q := by
  refine st_run ?_ hK
  unfold execOp
  rw [ho]
  simp only [hx]
  exact run_v h
theorem st_alloc {t : TypeId} {v : Value} {W' : World} (ho : o.op = .alloc t) (h : (Instr.alloc t true (.tuple #[])).run P W = .ok v W') (hK : K (b.put o.dst v) W') : Oper.wp P o b W K Q := by
  refine st_run ?_ hK
  unfold execOp
  rw [ho]
  exact run_v h
theorem st_call {f : FuncId} {args : Array Operand} {ats : Array TypeId} {vals : Array Value} (ho : o.op = .call { callee := .value (.func f), args := args, argTypes := ats }) (hx : args.map b.eval = vals)
    (h : (callFunc f (vals ++ #[])).run P W = .ok (.enter f vals) W) (hc : Calls P f vals W fun e w' => ∃ v, e = .returned v ∧ K (b.put o.dst v) w') : Oper.wp P o b W K Q := by
  have e : (execOp b.eval o).run P W = .ok (.enter f vals) W := by
    unfold execOp
    rw [ho]
    simp only [resolve, hx]
    have e1 : Deferred.ofValue (b.eval (Operand.func f)) vals = (pure { target := .fn (.func f) #[], args := vals } : Sem Deferred) := by
      simp [Deferred.ofValue, Act.eval]
    rw [e1, Sem.run_bind]
    simpa [invoke] using h
  unfold Oper.wp
  rw [e]
  refine hc.mono ?_
  rintro _ w' ⟨v, rfl, hk⟩
  exact hk
theorem st_pick {c x y : Operand} {v : Value} {t : Bool} (ho : o.op = .pick c x y) (hc : b.eval c = .bool t) (hv : (if t = true then b.eval x else b.eval y) = v) (hK : K (b.put o.dst v) W) : Oper.wp P o b W K Q := by
  refine st_run ?_ hK
  unfold execOp
  rw [ho]
  simp only [hc]
  subst hv
  cases t <;> rfl
theorem eval_const (v : Value) : b.eval (.const v) = v := rfl
end
end Go.Proofs.Ytfcimgdogkpbcaa.Dr
