/- Any word's instruction, or that it has none (P3.2): the document's decoder answers as the program's. -/
import Derived.Test.YtmjiimajbaeicaaInPB
import Derived.Test.YtmjiimajbaeicaaInPC
import Derived.Test.YtmjiimajbaeicaaInPintlelaw03InstDecodes
namespace Go.Proofs.Ytmjiimajbaeicaa.Pure
set_option linter.unusedVariables false
open Go.RowKit Go.Proofs.Ytmjiimajbaeicaa.PInst Go.Proofs.YtmjiimajbaeicaaW.PrintWords Go.Proofs.YtmjiimajbaeicaaW.PrintLast Go.Proofs.YtmjiimajbaeicaaW.PrintMore ImmPlain

theorem wf_u32 {n : Int} (h : (Lit.int .u32 n).wf = true) : 0 ≤ n ∧ n < 4294967296 := by
  simp only [Lit.wf, Bool.and_eq_true, decide_eq_true_eq] at h
  have e1 : IntKind.u32.min = 0 := by decide
  have e2 : IntKind.u32.max = 4294967295 := by decide
  rw [e1, e2] at h
  omega

theorem td (w n : Int) (h : 0 ≤ w) : Int.tdiv w n = w / n := Int.tdiv_eq_ediv_of_nonneg h
theorem tm (w n : Int) (h : 0 ≤ w) : Int.tmod w n = w % n := Int.tmod_eq_emod_of_nonneg h

/-- The last step of a round: the word is made, and compared. -/
theorem last_step (K : Nat) (w op p0 p1 p2 f rd a b im iv : Int) (x y z : Bool) (hi : (if f = 6 then w / 1048576 % 32 else im) = iv) (hw0 : 0 ≤ w) (A B : Ans) (ok : Bool) (wd : Int)
    (hE : pintleref03_Encode.f (K + 68) op rd a b iv = some (if ok = true then (wd, true) else (0, false)))
    (hn : pintleref03_Decode.l0 (K + 68) w (wrap64 (op + 1)) = some A) (hB : B = (op, rd, a, b, iv, true)) :
    pintleref03_Decode.j6 (K + 68 + 1) w op p0 p1 p2 f x y z op rd a b im = some (if ok = true ∧ wd = w then B else A) := by
  subst hB
  generalize K + 68 = N at *
  simp only [pintleref03_Decode.j6]
  by_cases c : f = 6
  · rw [if_pos c] at hi
    rw [if_pos c, td w _ hw0, hi, hE, obind]
    by_cases d : ok = true
    · rw [if_pos d]
      show (if (true = true) then (if wd = w then _ else _) else _) = _
      rw [if_pos rfl]
      by_cases e : wd = w
      · rw [if_pos e, if_pos ⟨d, e⟩]
      · rw [if_neg e, if_neg (fun h => e h.2)]; exact hn
    · rw [if_neg d]
      show (if (false = true) then _ else _) = _
      rw [if_neg (by decide), if_neg (fun h => d h.1)]; exact hn
  · rw [if_neg c] at hi
    rw [if_neg c, hi, hE, obind]
    by_cases d : ok = true
    · rw [if_pos d]
      show (if (true = true) then (if wd = w then _ else _) else _) = _
      rw [if_pos rfl]
      by_cases e : wd = w
      · rw [if_pos e, if_pos ⟨d, e⟩]
      · rw [if_neg e, if_neg (fun h => e h.2)]; exact hn
    · rw [if_neg d]
      show (if (false = true) then _ else _) = _
      rw [if_neg (by decide), if_neg (fun h => d h.1)]; exact hn

/-- The middle of a round: the fields are taken, as the row says. -/
theorem mid_steps (K : Nat) (w op p0 p1 p2 f : Int) (x y z : Bool) (hf : 0 ≤ f ∧ f ≤ 6) (hw0 : 0 ≤ w) (hw1 : w < 4294967296) (A B : Ans) (ok : Bool) (wd : Int) (rd a b iv : Int)
    (e1 : (if x = true then w / 128 % 32 else 0) = rd) (e2 : (if y = true then w / 32768 % 32 else 0) = a) (e3 : (if z = true then w / 1048576 % 32 else 0) = b) (e4 : (if f = 6 then w / 1048576 % 32 else getN f w) = iv)
    (hE : pintleref03_Encode.f (K + 68) op rd a b iv = some (if ok = true then (wd, true) else (0, false)))
    (hn : pintleref03_Decode.l0 (K + 68) w (wrap64 (op + 1)) = some A) (hB : B = (op, rd, a, b, iv, true)) :
    pintleref03_Decode.j1 (K + 74) w op false p0 p1 p2 f x y z = some (if ok = true ∧ wd = w then B else A) := by
  have h6 : ∀ im, (if f = 6 then w / 1048576 % 32 else im) = iv → pintleref03_Decode.j6 (K + 69) w op p0 p1 p2 f x y z op rd a b im = some (if ok = true ∧ wd = w then B else A) :=
    fun im hi => last_step K w op p0 p1 p2 f rd a b im iv x y z hi hw0 A B ok wd hE hn hB
  have h4 : pintleref03_Decode.j4 (K + 71) w op p0 p1 p2 f x y z op rd a b 0 = some (if ok = true ∧ wd = w then B else A) := by
    have hg := rget_is (K + 36) f w hw0 hw1
    rw [show K + 36 + 33 = K + 69 by omega] at hg
    rw [show K + 71 = K + 69 + 1 + 1 from rfl]
    generalize K + 69 = N at *
    simp only [pintleref03_Decode.j4, pintleref03_Decode.j5]
    by_cases c : f > 0
    · rw [if_pos c]
      by_cases d : f < 6
      · rw [decide_eq_true d, if_pos rfl, hg, obind]
        exact h6 _ e4
      · rw [decide_eq_false d, if_neg (by decide)]
        refine h6 _ ?_
        rw [if_pos (by omega)] at e4 ⊢
        exact e4
    · rw [if_neg c, if_neg (by decide)]
      refine h6 _ ?_
      rw [if_neg (by omega)] at e4 ⊢
      rw [← e4, getN_none f w (by omega)]
  rw [show K + 74 = K + 71 + 1 + 1 + 1 from rfl]
  generalize K + 71 = N at *
  simp only [pintleref03_Decode.j1, pintleref03_Decode.j2, pintleref03_Decode.j3]
  rw [if_neg (by decide)]
  simp only [td w _ hw0]
  cases x <;> cases y <;> cases z <;> (simp only [↓reduceIte, Bool.false_eq_true] at e1 e2 e3 ⊢; subst e1 e2 e3; exact h4)

theorem f_rng (op : Int) (h0 : 1 ≤ op) (h1 : op ≤ 46) : 0 ≤ fm op ∧ fm op ≤ 5 := by
  obtain ⟨n, rfl⟩ := in_nat op h0 h1
  have : ∀ n : Fin 46, 0 ≤ fm ((n.val + 1 : Nat) : Int) ∧ fm ((n.val + 1 : Nat) : Int) ≤ 5 := by decide +kernel
  exact this n

/-- One round of the document's decoder, for an operation with a row. -/
theorem rround (K : Nat) (w op : Int) (h0 : 1 ≤ op) (h1 : op ≤ 46) (hw0 : 0 ≤ w) (hw1 : w < 4294967296) (A : Ans) (hn : pintleref03_Decode.l0 (K + 68) w (op + 1) = some A) :
    pintleref03_Decode.l0 (K + 75) w op = some (if Dec op w then Hit op w else A) := by
  have hwr : wrap64 (op + 1) = op + 1 := by unfold wrap64; omega
  have hn74 : pintleref03_Decode.l0 (K + 73) w (op + 1) = some A := at_rounds (g := fun k => pintleref03_Decode.l0 k w (op + 1)) (fun k => (pintleref03_Decode.mono_l k).1 w (op + 1)) (by omega) hn
  have hE := renc_is K op (gRd op w) (gR1 op w) (gR2 op w) (gIm op w)
  rw [(okI_in op _ _ _ _ h0 h1).1, (okI_in op _ _ _ _ h0 h1).2] at hE
  have hf := f_rng op h0 h1
  have hof := rof_in (K + 74) (by omega) op h0 h1
  have hm := mid_steps K w op (lo op) (th op) (sv op) (if hs op = true then 6 else fm op) (hd op) (ha op) (hb op) (by split <;> omega) hw0 hw1 A (Hit op w) (okV op (gRd op w) (gR1 op w) (gR2 op w) (gIm op w)) (wdV op (gRd op w) (gR1 op w) (gR2 op w) (gIm op w)) (gRd op w) (gR1 op w) (gR2 op w) (gIm op w) rfl rfl rfl
    (by unfold gIm
        by_cases c : hs op = true
        · rw [if_pos c, if_pos c, if_pos rfl]
        · rw [if_neg c, if_neg c, if_neg (by omega)]) hE (by rw [hwr]; exact hn) rfl
  rw [show K + 75 = K + 74 + 1 from rfl]
  have e : pintleref03_Decode.l0 (K + 74 + 1) w op = pintleref03_Decode.j1 (K + 74) w op (w % 128 != lo op) (lo op) (th op) (sv op) (if hs op = true then 6 else fm op) (hd op) (ha op) (hb op) := by
    generalize K + 74 = N at hof
    simp only [pintleref03_Decode.l0]
    rw [if_pos (by omega), hof, obind]
    show (if (true = true) then _ else _) = _
    rw [if_pos rfl, tm w _ hw0]
  rw [e]
  by_cases c : w % 128 = lo op
  · rw [c, show (lo op != lo op) = false by rw [bne_self_eq_false]]
    exact hm
  · rw [show (w % 128 != lo op) = true by rw [bne_iff_ne]; exact c]
    have nd : ¬ Dec op w := fun h => c (dec_marks op w h0 h1 h).1
    rw [if_neg nd, show K + 74 = K + 73 + 1 from rfl]
    generalize K + 73 = N at *
    simp only [pintleref03_Decode.j1]
    rw [if_pos trivial, hwr]
    exact hn74

/-- One round for an operation without a row (47 and 48). -/
theorem sround (K : Nat) (w op wd : Int) (h : (op = 47 ∧ wd = 115) ∨ (op = 48 ∧ wd = 1048691)) (hw0 : 0 ≤ w) (hw1 : w < 4294967296) (A : Ans) (hn : pintleref03_Decode.l0 (K + 68) w (op + 1) = some A) :
    pintleref03_Decode.l0 (K + 75) w op = some (if wd = w then (op, 0, 0, 0, 0, true) else A) := by
  have hwr : wrap64 (op + 1) = op + 1 := by unfold wrap64; omega
  have hE := renc_is K op 0 0 0 0
  have hok : okI op 0 0 0 0 = true ∧ wdI op 0 0 0 0 = wd := by rcases h with ⟨rfl, rfl⟩ | ⟨rfl, rfl⟩ <;> exact ⟨by decide, by decide⟩
  rw [hok.1, hok.2] at hE
  have hof := rof_out (K + 74) (by omega) op (by omega)
  have hm := mid_steps K w op 0 0 0 0 false false false (by omega) hw0 hw1 A (op, 0, 0, 0, 0, true) true wd 0 0 0 0 rfl rfl rfl
    (by rw [if_neg (by decide), getN_none 0 w (by omega)]) hE (by rw [hwr]; exact hn) rfl
  have e : pintleref03_Decode.l0 (K + 74 + 1) w op = pintleref03_Decode.j1 (K + 74) w op false 0 0 0 0 false false false := by
    generalize K + 74 = N at hof
    simp only [pintleref03_Decode.l0]
    rw [if_pos (by omega), hof, obind]
    show (if (false = true) then _ else _) = _
    rw [if_neg (by decide)]
  rw [show K + 75 = K + 74 + 1 from rfl, e, hm]
  by_cases c : wd = w
  · rw [if_pos ⟨rfl, c⟩, if_pos c]
  · rw [if_neg (fun h => c h.2), if_neg c]

/-- What the two last rounds answer. -/
def Tail (w : Int) : Ans := if 115 = w then (47, 0, 0, 0, 0, true) else if 1048691 = w then (48, 0, 0, 0, 0, true) else Miss

theorem tail_is (K : Nat) (w : Int) (hw0 : 0 ≤ w) (hw1 : w < 4294967296) : pintleref03_Decode.l0 (K + 82) w 47 = some (Tail w) := by
  have h49 : pintleref03_Decode.l0 (K + 68) w (48 + 1) = some Miss := by
    rw [show K + 68 = K + 67 + 1 from rfl]
    generalize K + 67 = N
    simp only [pintleref03_Decode.l0]
    rw [if_neg (by decide)]
    rfl
  have h48 := sround K w 48 1048691 (.inr ⟨rfl, rfl⟩) hw0 hw1 _ h49
  have h47 := sround (K + 7) w 47 115 (.inl ⟨rfl, rfl⟩) hw0 hw1 _ (by rw [show K + 7 + 68 = K + 75 by omega]; exact h48)
  rw [show K + 7 + 75 = K + 82 by omega] at h47
  exact h47

theorem ref_loop (w : Int) (hw0 : 0 ≤ w) (hw1 : w < 4294967296) (d : Nat) : ∀ (op : Int), 1 ≤ op → op + d = 47 →
    ((∃ o, op ≤ o ∧ o ≤ 46 ∧ Dec o w ∧ pintleref03_Decode.l0 (82 + 7 * d) w op = some (Hit o w)) ∨ ((∀ o, op ≤ o → o ≤ 46 → ¬ Dec o w) ∧ pintleref03_Decode.l0 (82 + 7 * d) w op = some (Tail w))) := by
  induction d with
  | zero =>
    intro op h1 hd
    obtain rfl : op = 47 := by omega
    exact .inr ⟨fun o h2 h3 => by omega, tail_is 0 w hw0 hw1⟩
  | succ d ih =>
    intro op h1 hd
    have step := fun A => rround (14 + 7 * d) w op h1 (by omega) hw0 hw1 A
    rw [show 14 + 7 * d + 68 = 82 + 7 * d by omega, show 14 + 7 * d + 75 = 82 + 7 * (d + 1) by omega] at step
    rcases ih (op + 1) (by omega) (by omega) with ⟨o, o1, o2, o3, o4⟩ | ⟨n1, n2⟩
    · have s := step _ o4
      by_cases e : Dec op w
      · exact .inl ⟨op, by omega, by omega, e, by rw [s, if_pos e]⟩
      · exact .inl ⟨o, by omega, o2, o3, by rw [s, if_neg e]⟩
    · have s := step _ n2
      by_cases e : Dec op w
      · exact .inl ⟨op, by omega, by omega, e, by rw [s, if_pos e]⟩
      · refine .inr ⟨fun o h2 h3 => ?_, by rw [s, if_neg e]⟩
        by_cases f : o = op
        · subst f; exact e
        · exact n1 o (by omega) h3

theorem no_dec (w : Int) (h : w % 128 = 115) (o : Int) (o0 : 1 ≤ o) (o1 : o ≤ 46) : ¬ Dec o w := by
  intro hd
  have hm := (dec_marks o w o0 o1 hd).1
  obtain ⟨n, rfl⟩ := in_nat o o0 o1
  exact lo_not n (hm.symm.trans h)

theorem same (w : Int) (A : Ans) (h1 : inst_Decode.f 404 w = some A) (h2 : pintleref03_Decode.f 404 w = some A) : pintlelaw03_InstDecodes.f 404 w = some true := by
  obtain ⟨a, b, c, d, e, f⟩ := A
  unfold pintlelaw03_InstDecodes.f
  rw [h1, obind, h2, obind]
  show (if (a == a && (b == b && (c == c && (d == d && (e == e))))) = true then (if (f == f) = true then _ else _) else _) = _
  rw [if_pos (by simp), if_pos (by simp), lives_is 404 (by decide), obind]

theorem InstDecodes : pintlelaw03_InstDecodes.Pure := by
  intro w hw
  obtain ⟨h0, h1⟩ := wf_u32 hw
  refine ⟨404, ?_⟩
  have up : ∀ A, inst_Decode.f 110 w = some A → inst_Decode.f 404 w = some A := fun A h => at_rounds (g := fun k => inst_Decode.f k w) (fun k => inst_Decode.mono w k) (by decide) h
  have hr := ref_loop w h0 h1 46 1 (by decide) (by decide)
  rw [show 82 + 7 * 46 = 404 from rfl] at hr
  rcases decode_is w h0 h1 with ⟨c, h⟩ | ⟨c, h⟩ | ⟨c1, c2, o, o0, o1, od, h⟩ | ⟨c1, c2, hno, h⟩
  · rcases hr with ⟨p, p0, p1, pd, hp⟩ | ⟨_, hp⟩
    · exact absurd pd (no_dec w (by omega) p p0 p1)
    · refine same w _ (up _ h) ?_
      unfold pintleref03_Decode.f
      rw [hp]
      unfold Tail
      rw [if_pos c.symm]
  · rcases hr with ⟨p, p0, p1, pd, hp⟩ | ⟨_, hp⟩
    · exact absurd pd (no_dec w (by omega) p p0 p1)
    · refine same w _ (up _ h) ?_
      unfold pintleref03_Decode.f
      rw [hp]
      unfold Tail
      rw [if_neg (by omega), if_pos c.symm]
  · rcases hr with ⟨p, p0, p1, pd, hp⟩ | ⟨hno, hp⟩
    · have e := dec_one o p w o0 o1 p0 p1 od pd
      subst e
      exact same w _ (up _ h) hp
    · exact absurd od (hno o o0 o1)
  · rcases hr with ⟨p, p0, p1, pd, hp⟩ | ⟨_, hp⟩
    · exact absurd pd (hno p p0 p1)
    · refine same w _ (up _ h) ?_
      unfold pintleref03_Decode.f
      rw [hp]
      unfold Tail
      rw [if_neg (fun h => c1 h.symm), if_neg (fun h => c2 h.symm)]
end Go.Proofs.Ytmjiimajbaeicaa.Pure
