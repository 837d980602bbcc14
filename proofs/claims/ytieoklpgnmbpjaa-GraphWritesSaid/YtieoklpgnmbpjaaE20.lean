/- Plain law: what is written is read back. -/
import Derived.Test.YtieoklpgnmbpjaaE17
import Derived.Test.YtieoklpgnmbpjaaE10
namespace Go.Proofs.Ytieoklpgnmbpjaa.Gr
open Go.RowKit Dr
set_option linter.unusedVariables false
set_option linter.unusedSimpArgs false
theorem in32_of {n : Int} (h : in32 n = true) : -2147483648 ≤ n ∧ n < 2147483648 := by
  unfold in32 at h
  simpa [Bool.and_eq_true] using h
theorem le4_w32 {n : Int} (r : List Int) (h : in32 n = true) : le4 (w32 n ++ r) = n := by
  have h := in32_of h
  show sx (n % 4294967296 % 256 + 256 * (n % 4294967296 / 256 % 256) + 65536 * (n % 4294967296 / 65536 % 256) + 16777216 * (n % 4294967296 / 16777216 % 256)) = n
  unfold sx
  split <;> omega
theorem num_w32 {n : Int} (r : List Int) (h : in32 n = true) : num (w32 n ++ r, 0) = (n, (r, 0)) := by
  unfold num
  rw [if_neg (by simp [w32_len]), le4_w32 r h]
  rfl
theorem many_w32 {n most : Int} (r : List Int) (h : in32 n = true) (h0 : 0 ≤ n) (h1 : n ≤ most) : many most (w32 n ++ r, 0) = (n, (r, 0)) := by
  unfold many
  rw [num_w32 r h, if_neg (by simp only; omega)]
theorem take_app (xs r : List Int) : take xs.length (xs ++ r, 0) = (some xs, (r, 0)) := by
  unfold take
  rw [if_neg (by simp)]
  simp
theorem lst_flat (r : List Int) : ∀ (i : Nat) (l : List Int), l.all in32 = true → i ≤ l.length → lst i (l.flatMap w32 ++ r, 0) = (l.take i, ((l.drop i).flatMap w32 ++ r, 0))
  | 0, l, _, _ => by simp [lst]
  | i + 1, l, h, hi => by
    have ih := lst_flat r i l h (by omega)
    have hlt : i < l.length := by omega
    have hd : l.drop i = l[i] :: l.drop (i + 1) := List.drop_eq_getElem_cons hlt
    have hx : in32 l[i] = true := List.all_eq_true.1 h _ (List.getElem_mem hlt)
    simp only [lst]
    rw [ih, hd, List.flatMap_cons, List.append_assoc, num_w32 _ hx, List.take_add_one, List.getElem?_eq_getElem hlt]
    rfl
theorem wrd_flat (r : List Int) : ∀ (i : Nat) (l : List Int), (∀ z ∈ l, -2147483648 ≤ z ∧ z ≤ 2147483647) → i ≤ l.length → wrd i (l.flatMap w32 ++ r, 0) = (l.take i, ((l.drop i).flatMap w32 ++ r, 0))
  | 0, l, _, _ => by simp [wrd]
  | i + 1, l, h, hi => by
    have ih := wrd_flat r i l h (by omega)
    have hlt : i < l.length := by omega
    have hd : l.drop i = l[i] :: l.drop (i + 1) := List.drop_eq_getElem_cons hlt
    have hz := h _ (List.getElem_mem hlt)
    have hx : in32 l[i] = true := by unfold in32; simp; omega
    show (if (wrd i (l.flatMap w32 ++ r, 0)).2.2 = 0 then _ else _) = _
    rw [ih, if_pos rfl, hd, List.flatMap_cons, List.append_assoc, num_w32 _ hx, List.take_add_one, List.getElem?_eq_getElem hlt, IntWalk.i32_in _ hz]
    rfl
theorem i8_back {l : List Int} (h : ∀ z ∈ l, -128 ≤ z ∧ z ≤ 127) : (l.map (· % 256)).map IntKind.i8.wrap = l := by
  rw [List.map_map]
  conv => rhs; rw [← List.map_id l]
  refine List.map_congr_left fun z hz => ?_
  have := h z hz
  show IntKind.i8.wrap (z % 256) = z
  simp only [IntKind.wrap, IntKind.bits, IntKind.signed]
  simp
  split <;> omega
/-- A constant that may be written. -/
structure goodC (x : List Int × List Int) : Prop where
  l1 : x.1.length ≤ 65536
  l2 : x.2.length ≤ 65536
  b1 : ∀ z ∈ x.1, -128 ≤ z ∧ z ≤ 127
  b2 : ∀ z ∈ x.2, -2147483648 ≤ z ∧ z ≤ 2147483647
  one : x.1 = [] ∨ x.2 = []
theorem in32_nat {n : Nat} (h : n ≤ 65536) : in32 (n : Int) = true := by
  unfold in32
  simp
  omega
theorem con_cb {x : List Int × List Int} (r : List Int) (h : goodC x) : con (cb x ++ r, 0) = (x, (r, 0)) := by
  have e1 : cby (cb x ++ r, 0) = (x.1, (w32 (x.2.length : Int) ++ (x.2.flatMap w32 ++ r), 0)) := by
    unfold cby cb
    rw [show (w32 (x.1.length : Int) ++ x.1.map (· % 256) ++ w32 (x.2.length : Int) ++ x.2.flatMap w32 ++ r) = w32 (x.1.length : Int) ++ (x.1.map (· % 256) ++ (w32 (x.2.length : Int) ++ (x.2.flatMap w32 ++ r))) by simp only [List.append_assoc]]
    rw [many_w32 _ (in32_nat h.l1) (by omega) (by have := h.l1; omega)]
    simp only [Int.toNat_natCast]
    have ht := take_app (x.1.map (· % 256)) (w32 (x.2.length : Int) ++ (x.2.flatMap w32 ++ r))
    rw [List.length_map] at ht
    rw [ht]
    simp only [Option.getD_some]
    rw [i8_back h.b1]
  have e2 : cwd (w32 (x.2.length : Int) ++ (x.2.flatMap w32 ++ r), 0) = (x.2, (r, 0)) := by
    unfold cwd
    rw [many_w32 _ (in32_nat h.l2) (by omega) (by have := h.l2; omega)]
    simp only [Int.toNat_natCast]
    rw [wrd_flat r _ _ h.b2 (Nat.le_refl _), List.take_length, List.drop_length]
    rfl
  unfold con
  rw [e1]
  simp only
  rw [e2]
  simp only
  rw [if_neg (fun hh => by rcases h.one with q | q <;> rw [q] at hh <;> simp at hh)]
theorem nod_nb {x : List Int} (r : List Int) (h : nok x = true) : nod (nb x ++ r, 0) = (nums x, (r, 0)) := by
  have e : lst 27 (nb x ++ r, 0) = (nums x, (r, 0)) := by
    have hl := lst_flat r 27 (nums x) h (Nat.le_refl _)
    unfold nb
    rw [hl]
    rfl
  rw [nod_eq _ _ _ e]
  rw [if_pos (show (nums x).getD 26 0 = 0 from rfl)]
theorem rep_flat {α β : Type} {f : List Int × Int → β × (List Int × Int)} {enc : α → List Int} {dec : α → β} (r : List Int) (l : List α) (hf : ∀ x ∈ l, ∀ r, f (enc x ++ r, 0) = (dec x, (r, 0))) : ∀ i, i ≤ l.length → rep f i (l.flatMap enc ++ r, 0) = ((l.take i).map dec, ((l.drop i).flatMap enc ++ r, 0))
  | 0, _ => by simp [rep]
  | i + 1, hi => by
    have ih := rep_flat r l hf i (by omega)
    have hlt : i < l.length := by omega
    have hd : l.drop i = l[i] :: l.drop (i + 1) := List.drop_eq_getElem_cons hlt
    have hx := hf l[i] (List.getElem_mem hlt)
    simp only [rep]
    rw [ih, hd, List.flatMap_cons, List.append_assoc, hx, List.take_add_one, List.getElem?_eq_getElem hlt]
    simp only [List.map_append, Option.toList_some, List.map_cons, List.map_nil]
theorem rep_all {α β : Type} {f : List Int × Int → β × (List Int × Int)} {enc : α → List Int} {dec : α → β} (r : List Int) (l : List α) (hf : ∀ x ∈ l, ∀ r, f (enc x ++ r, 0) = (dec x, (r, 0))) : rep f l.length (l.flatMap enc ++ r, 0) = (l.map dec, (r, 0)) := by
  rw [rep_flat r l hf _ (Nat.le_refl _), List.take_length, List.drop_length]
  rfl
/-- A network that may be written. -/
structure goodG (a b c o : Int) (cs : List (List Int × List Int)) (ns : List (List Int)) : Prop where
  c80 : cs.length ≤ 80
  n40 : ns.length ≤ 40
  gc : ∀ x ∈ cs, goodC x
  ok : gok a b c o cs ns = true
theorem gok_parts {a b c o : Int} {cs : List (List Int × List Int)} {ns : List (List Int)} (h : gok a b c o cs ns = true) : [a, b, c].all in32 = true ∧ in32 (cs.length : Int) = true ∧ in32 (ns.length : Int) = true ∧ in32 o = true ∧ ∀ x ∈ ns, nok x = true := by
  unfold gok at h
  simp only [Bool.and_eq_true, List.all_eq_true] at h
  obtain ⟨⟨⟨h1, h2⟩, h3⟩, h4⟩ := h
  exact ⟨by simpa [List.all_eq_true] using h1, h2 _ (by simp), h2 _ (by simp), h2 _ (by simp), h4⟩
theorem back {a b c o : Int} {cs : List (List Int × List Int)} {ns : List (List Int)} (h : goodG a b c o cs ns) (more : List Int) : ∃ s, Hd (gb a b c o cs ns ++ more) a b c o cs.length ns.length s ∧ rep con cs.length s = (cs, (ns.flatMap nb ++ more, 0)) ∧ rep nod ns.length (ns.flatMap nb ++ more, 0) = (ns.map nums, (more, 0)) := by
  obtain ⟨h1, h2, h3, h4, h5⟩ := gok_parts h.ok
  refine ⟨(cs.flatMap cb ++ (ns.flatMap nb ++ more), 0), ⟨⟨(w32 (cs.length : Int) ++ (w32 (ns.length : Int) ++ (w32 o ++ (cs.flatMap cb ++ (ns.flatMap nb ++ more)))), 0), (w32 (ns.length : Int) ++ (w32 o ++ (cs.flatMap cb ++ (ns.flatMap nb ++ more))), 0), (w32 o ++ (cs.flatMap cb ++ (ns.flatMap nb ++ more)), 0), ?_, ?_, ?_, ?_⟩, h.c80, h.n40⟩, ?_, ?_⟩
  · have hd : (gb a b c o cs ns ++ more).drop 4 = [a, b, c].flatMap w32 ++ (w32 (cs.length : Int) ++ (w32 (ns.length : Int) ++ (w32 o ++ (cs.flatMap cb ++ (ns.flatMap nb ++ more))))) := by
      unfold gb hd6 MG
      simp only [List.append_assoc, List.cons_append, List.nil_append, List.drop_succ_cons, List.drop_zero, List.flatMap_cons, List.flatMap_nil]
    rw [hd, lst_flat _ 3 [a, b, c] h1 (Nat.le_refl _)]
    rfl
  · exact many_w32 _ h2 (by omega) (by have := h.c80; omega)
  · exact many_w32 _ h3 (by omega) (by have := h.n40; omega)
  · exact num_w32 _ h4
  · have := rep_all (f := con) (enc := cb) (dec := id) (ns.flatMap nb ++ more) cs (fun x hx r => con_cb r (h.gc x hx))
    rw [List.map_id] at this
    exact this
  · exact rep_all (f := nod) (enc := nb) (dec := nums) more ns (fun x hx r => nod_nb r (h5 x hx))
theorem okB_w32 (n : Int) : okB (w32 n) := by
  intro x hx
  simp only [w32, List.mem_cons, List.not_mem_nil, or_false] at hx
  omega
theorem okB_app {l r : List Int} (h1 : okB l) (h2 : okB r) : okB (l ++ r) := fun x hx => (List.mem_append.1 hx).elim (h1 x) (h2 x)
theorem okB_flat {α : Type} {f : α → List Int} {l : List α} (h : ∀ x ∈ l, okB (f x)) : okB (l.flatMap f) := fun y hy => by
  obtain ⟨x, hx, hy⟩ := List.mem_flatMap.1 hy
  exact h x hx y hy
theorem okB_gb (a b c o : Int) (cs : List (List Int × List Int)) (ns : List (List Int)) : okB (gb a b c o cs ns) := by
  unfold gb hd6
  refine okB_app (okB_app (okB_app (fun x hx => ?_) (okB_app (okB_flat fun x _ => okB_w32 x) (okB_flat fun x _ => okB_w32 x))) (okB_flat fun x _ => ?_)) (okB_flat fun x _ => okB_flat fun y _ => okB_w32 y)
  · simp only [MG, List.mem_cons, List.not_mem_nil, or_false] at hx
    omega
  · unfold cb
    exact okB_app (okB_app (okB_app (okB_w32 _) (fun y hy => by obtain ⟨z, _, rfl⟩ := List.mem_map.1 hy; omega)) (okB_w32 _)) (okB_flat fun y _ => okB_w32 y)
end Go.Proofs.Ytieoklpgnmbpjaa.Gr
