/- The document's Write: plain facts. -/
import Derived.Test.YtieoklpgnmbpjaaE31
import Derived.Test.YtieoklpgnmbpjaaE27
namespace Go.Proofs.Ytieoklpgnmbpjaa.Gr
open Go.RowKit Dr
open Go.Proofs.YtieoklpgnmbpjaaW.PrintWords (Kd Kd.C Kd.R Kd.M_step Kd.C_below Kd.C_get Kd.R_below Kd.R_reads Kd.R_reads' Kd.R_types Kd.R_step Kd.R_alloc Kd.R_drew Kd.R_lower add_field Kd.R_append Kd.R_bound Kd.R_move Kd.R_mono Kd.R_nil Kd.R_set Kd.R_ne Kd.R_over' Kd.R_typed Kd.C_nil Kd.R_slice Kd.R_append_rows Kd.R_form ReadsRow Kd.C_string)
set_option linter.unusedVariables false
set_option linter.unusedSimpArgs false
set_option maxRecDepth 100000
/-- A network's bytes, or none, and what is wrong. -/
def gw (a b c o : Int) (cs : List (List Int × List Int)) (ns : List (List Int)) : List Int × Int :=
  if (lgB cs ns).1 = true ∨ gok a b c o cs ns = false ∨ 1048576 < (gb a b c o cs ns).length then ([], 2) else if (lgB cs ns).2 = true then ([], 4) else (gb a b c o cs ns, 0)
theorem WQ_gw {w : World} {a b c o : Int} {cs : List (List Int × List Int)} {ns : List (List Int)} {e : Ending} {w' : World} (h : WQ w a b c o cs ns e w') :
    ∃ A cc, e = .returned (.tuple #[.slice A (gw a b c o cs ns).1.length cc, .int .i64 (gw a b c o cs ns).2]) ∧ Kd.R (Kd.int .u8) 5 w' w.heap.size (fun _ => True) (.slice A (gw a b c o cs ns).1.length cc) (gw a b c o cs ns).1 ∧ Below w.heap.size w w' := by
  obtain ⟨hB, h⟩ := h
  unfold gw
  split at h
  · rename_i h1
    rw [if_pos h1]
    exact ⟨none, 0, h, Kd.R_nil _ _ _ _ _, hB⟩
  · rename_i h1
    rw [if_neg h1]
    split at h
    · rename_i h2
      rw [if_pos h2]
      exact ⟨none, 0, h, Kd.R_nil _ _ _ _ _, hB⟩
    · rename_i h2
      rw [if_neg h2]
      obtain ⟨v, he, hR⟩ := h
      obtain ⟨A, cc, rfl⟩ := Kd.R_slice hR
      exact ⟨A, cc, he, hR, hB⟩
theorem gw_zero {a b c o : Int} {cs : List (List Int × List Int)} {ns : List (List Int)} (h : (gw a b c o cs ns).2 = 0) (h8 : ∀ x ∈ cs, ∀ z ∈ x.1, -128 ≤ z ∧ z ≤ 127) (h32 : ∀ x ∈ cs, ∀ z ∈ x.2, -2147483648 ≤ z ∧ z ≤ 2147483647) : goodG a b c o cs ns ∧ (gw a b c o cs ns).1 = gb a b c o cs ns := by
  unfold gw at h ⊢
  split at h
  · cases h
  · rename_i h1
    split at h
    · cases h
    · rename_i h2
      have q1 : (lgB cs ns).1 = false := by cases q : (lgB cs ns).1; rfl; exact absurd (.inl q) h1
      have q2 : (lgB cs ns).2 = false := by cases q : (lgB cs ns).2; rfl; exact absurd q h2
      have q3 : gok a b c o cs ns = true := by cases q : gok a b c o cs ns; exact absurd (.inr (.inl q)) h1; rfl
      have hi := lgB_in q1
      refine ⟨⟨hi.1, hi.2.1, fun x hx => ⟨(hi.2.2 x hx).1, (hi.2.2 x hx).2, h8 x hx, h32 x hx, lgB_two q1 q2 x hx⟩, q3⟩, ?_⟩
      rw [if_neg h1, if_neg h2]
/-- Small constants. -/
def smallC (cs : List (List Int × List Int)) : Prop := ∀ x ∈ cs, x.1.length ≤ 200 ∧ x.2.length ≤ 60
theorem small_big {cs : List (List Int × List Int)} (h : smallC cs) : cs.any bigC = false := by
  rw [List.any_eq_false]
  intro x hx
  have := h x hx
  unfold bigC
  simp
  omega
theorem small_ok {cs : List (List Int × List Int)} (h : smallC cs) (h32 : ∀ x ∈ cs, ∀ z ∈ x.2, -2147483648 ≤ z ∧ z ≤ 2147483647) : cs.all cok = true := by
  rw [List.all_eq_true]
  intro x hx
  have h1 := h x hx
  unfold cok
  rw [in32_nat (by omega), in32_nat (by omega)]
  simp only [Bool.true_and, List.all_eq_true]
  intro z hz
  have := h32 x hx z hz
  unfold in32
  simp
  omega
theorem small_gok {a b c o : Int} {cs : List (List Int × List Int)} {ns : List (List Int)} (h : smallC cs) (h32 : ∀ x ∈ cs, ∀ z ∈ x.2, -2147483648 ≤ z ∧ z ≤ 2147483647) : gok a b c o cs ns = ([a, b, c, (cs.length : Int), (ns.length : Int), o].all in32 && ns.all nok) := by
  unfold gok
  rw [small_ok h h32]
  simp only [List.all_cons, List.all_nil, Bool.and_true, Bool.and_assoc]
theorem gw_many {a b c o : Int} {cs : List (List Int × List Int)} {ns : List (List Int)} (h : 80 < cs.length ∨ 40 < ns.length) : gw a b c o cs ns = ([], 2) := by
  unfold gw lgB
  rw [if_pos h]
  simp
theorem lgB_few {cs : List (List Int × List Int)} {ns : List (List Int)} (h : smallC cs) (h1 : ¬ 80 < cs.length) (h2 : ¬ 40 < ns.length) : lgB cs ns = (false, cs.any bothC) := by
  unfold lgB
  rw [if_neg (by omega), small_big h]
theorem gw_bad {a b c o : Int} {cs : List (List Int × List Int)} {ns : List (List Int)} (h : gok a b c o cs ns = false ∨ 1048576 < (gb a b c o cs ns).length) : gw a b c o cs ns = ([], 2) := by
  unfold gw
  rw [if_pos (.inr h)]
theorem gw_both {a b c o : Int} {cs : List (List Int × List Int)} {ns : List (List Int)} (h : smallC cs) (h1 : ¬ 80 < cs.length) (h2 : ¬ 40 < ns.length) (h3 : gok a b c o cs ns = true) (h4 : ¬ 1048576 < (gb a b c o cs ns).length) (h5 : cs.any bothC = true) : gw a b c o cs ns = ([], 4) := by
  unfold gw
  rw [lgB_few h h1 h2, if_neg (by rw [h3]; simp; omega), if_pos h5]
theorem gw_ok {a b c o : Int} {cs : List (List Int × List Int)} {ns : List (List Int)} (h : smallC cs) (h1 : ¬ 80 < cs.length) (h2 : ¬ 40 < ns.length) (h3 : gok a b c o cs ns = true) (h4 : ¬ 1048576 < (gb a b c o cs ns).length) (h5 : cs.any bothC = false) : gw a b c o cs ns = (gb a b c o cs ns, 0) := by
  unfold gw
  rw [lgB_few h h1 h2, if_neg (by rw [h3]; simp; omega), if_neg (by rw [h5]; simp)]
theorem gb_hd (a b c o : Int) (cs : List (List Int × List Int)) (ns : List (List Int)) : gb a b c o cs ns = MG ++ [a, b, c, (cs.length : Int), (ns.length : Int), o].flatMap w32 ++ cs.flatMap cb ++ ns.flatMap nb := by
  unfold gb hd6
  simp only [List.flatMap_cons, List.flatMap_nil, List.append_nil, List.append_assoc]
/-- While a network is written: the bytes that stand, and what was there. -/
def RW (W1 W : World) (u : Value) (bs : List Int) : Prop := Wr W1.heap.size W1 W ∧ Kd.R (Kd.int .u8) 5 W W1.heap.size (fun _ => True) u bs
theorem RW.app {W1 W w4 : World} {u v4 : Value} {bs cs : List Int} (h : RW W1 W u bs) (hR : Kd.R (Kd.int .u8) 5 w4 W1.heap.size (fun _ => True) v4 cs) (hb : Below W1.heap.size W w4) (hg : W.grownBy w4 u.ownBlock) : RW W1 w4 v4 cs :=
  ⟨h.1.trans (Wr.grown hb hg (fun k hk => by obtain ⟨cells, hc⟩ := Kd.R_typed h.2 k hk; exact ⟨cells, _, hc⟩)), hR⟩
theorem RW.below {W1 W W' : World} {u : Value} {bs : List Int} (h : RW W1 W u bs) (hb : Below W.heap.size W W') : RW W1 W' u bs := ⟨h.1.trans (Wr.of_below hb h.1.bel.size), Kd.R_below h.2 hb⟩
theorem RW.wr {W1 V W : World} {u u' : Value} {bs bs' : List Int} (h : RW W1 V u bs) (hw : Wr W1.heap.size V W) (hR : Kd.R (Kd.int .u8) 5 W W1.heap.size (fun _ => True) u' bs') : RW W1 W u' bs' := ⟨h.1.trans hw, hR⟩
theorem put_rr (A : Option Addr) (c n : Nat) (l L : List Int) (ok : Bool) (w : World) (hn : l.length = n) (hL : l.flatMap w32 = L) (hok : l.all in32 = ok) (hl : n ≤ 1000) (hC : Kd.C (Kd.int .i64) w A n l) :
    Calls Try.prog 16 #[.slice A n c] w fun e w' => ∃ A' c', e = .returned (.tuple #[.slice A' L.length c', .bool ok]) ∧ Kd.R (Kd.int .u8) 5 w' w.heap.size (fun _ => True) (.slice A' L.length c') L ∧ Below w.heap.size w w' := by
  subst hn hL hok
  refine (put_r A c l w hl hC).mono fun e w' ⟨v, he, hR, hB⟩ => ?_
  obtain ⟨A', c', rfl⟩ := Kd.R_slice hR
  exact ⟨A', c', he, hR, hB⟩
theorem cv360 (n : Int) (W : World) : (convert 3 60 (.int .i64 n)).run Try.prog W = .ok (.int .u32 (n % 4294967296)) W := by
  rw [show (convert 3 60 (.int .i64 n)).run Try.prog W = .ok (.int .u32 (IntKind.u32.wrap n)) W by kernel_rfl, IntKind.wrap_u32]
theorem cv2160 (n : Int) (W : World) : (convert 21 60 (.int .i32 n)).run Try.prog W = .ok (.int .u32 (n % 4294967296)) W := by
  rw [show (convert 21 60 (.int .i32 n)).run Try.prog W = .ok (.int .u32 (IntKind.u32.wrap n)) W by kernel_rfl, IntKind.wrap_u32]
theorem bothC_is (x : List Int × List Int) : bothC x = (decide ((0 : Int) < (x.1.length : Int)) && decide ((0 : Int) < (x.2.length : Int))) := rfl
end Go.Proofs.Ytieoklpgnmbpjaa.Gr
