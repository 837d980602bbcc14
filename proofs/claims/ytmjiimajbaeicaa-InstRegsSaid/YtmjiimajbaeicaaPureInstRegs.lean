/- Which registers any instruction reads, and which it sets (P3.3). -/
import Derived.Test.YtmjiimajbaeicaaInPC
import Derived.Test.YtmjiimajbaeicaaInPintlelaw03InstRegs
namespace Go.Proofs.Ytmjiimajbaeicaa.Pure
set_option linter.unusedVariables false
open Go.RowKit Go.Proofs.Ytmjiimajbaeicaa.PInst Go.Proofs.YtmjiimajbaeicaaW.PrintWords Go.Proofs.YtmjiimajbaeicaaW.PrintLast Go.Proofs.YtmjiimajbaeicaaW.PrintMore ImmPlain


def readL (op rd rs1 rs2 imm : Int) : List Int := if okI op rd rs1 rs2 imm = true ∧ 1 ≤ op ∧ op ≤ 46 then (if ha op = true then (if hb op = true then [rs1, rs2] else [rs1]) else (if hb op = true then [rs2] else [])) else []

theorem readL_out (op rd rs1 rs2 imm : Int) (h : ¬ (1 ≤ op ∧ op ≤ 46)) : readL op rd rs1 rs2 imm = [] := by
  unfold readL; rw [if_neg (fun hh => h hh.2)]
theorem readL_no (op rd rs1 rs2 imm : Int) (h : ¬ okI op rd rs1 rs2 imm = true) : readL op rd rs1 rs2 imm = [] := by
  unfold readL; rw [if_neg (fun hh => h hh.1)]
theorem readL_yes (op rd rs1 rs2 imm : Int) (h : okI op rd rs1 rs2 imm = true) (c : 1 ≤ op ∧ op ≤ 46) : readL op rd rs1 rs2 imm = (if ha op = true then (if hb op = true then [rs1, rs2] else [rs1]) else (if hb op = true then [rs2] else [])) := by
  unfold readL; rw [if_pos ⟨h, c⟩]

theorem reads_is (k : Nat) (op rd rs1 rs2 imm : Int) : inst_Reads.f (k + 13) op rd rs1 rs2 imm = some (readL op rd rs1 rs2 imm) := by
  obtain ⟨x, h1, _⟩ := word_is (k + 1) op rd rs1 rs2 imm
  unfold inst_Reads.f
  by_cases c : 1 ≤ op ∧ op ≤ 46
  · rw [of_in (k + 13) (by omega) op c.1 c.2, obind, show k + 13 = k + 1 + 12 from by omega, h1, obind]
    show (if (true = true) then inst_Reads.j0 (k + 1 + 12) (!okI op rd rs1 rs2 imm) op rd rs1 rs2 imm (lo op) (th op) (sv op) (fm op) (hd op) (ha op) (hb op) (hs op) else _) = _
    rw [if_pos rfl, show k + 1 + 12 = k + 12 + 1 from by omega]
    generalize k + 12 = K
    simp only [inst_Reads.j0]
    by_cases d : okI op rd rs1 rs2 imm = true
    · rw [readL_yes op rd rs1 rs2 imm d c]
      by_cases e : ha op = true <;> by_cases f : hb op = true <;> simp [d, e, f]
    · rw [readL_no op rd rs1 rs2 imm d]
      simp [d]
  · rw [of_out (k + 13) (by omega) op (by omega), obind, show k + 13 = k + 1 + 12 from by omega, h1, obind, readL_out op rd rs1 rs2 imm c]
    show (if (false = true) then _ else inst_Reads.j0 (k + 1 + 12) true op rd rs1 rs2 imm 0 0 0 0 false false false false) = _
    rw [if_neg (by decide), show k + 1 + 12 = k + 12 + 1 from by omega]
    generalize k + 12 = K
    simp only [inst_Reads.j0]
    rw [if_pos trivial]

theorem rreads_is (k : Nat) (op rd rs1 rs2 imm : Int) : pintleref03_Reads.f (k + 68) op rd rs1 rs2 imm = some (readL op rd rs1 rs2 imm) := by
  have he := renc_is k op rd rs1 rs2 imm
  unfold pintleref03_Reads.f
  rw [obind, he]
  by_cases c : 1 ≤ op ∧ op ≤ 46
  · rw [rof_in (k + 68) (by omega) op c.1 c.2, obind, obind]
    by_cases d : okI op rd rs1 rs2 imm = true
    · rw [if_pos d, readL_yes op rd rs1 rs2 imm d c]
      by_cases e : ha op = true <;> by_cases f : hb op = true <;> simp [e, f]
    · rw [if_neg d, readL_no op rd rs1 rs2 imm d]
      rfl
  · rw [rof_out (k + 68) (by omega) op (by omega), obind, obind, readL_out op rd rs1 rs2 imm c]
    by_cases d : okI op rd rs1 rs2 imm = true
    · rw [if_pos d]; rfl
    · rw [if_neg d]; rfl

theorem ints_same (l : List Int) (hn : l.length ≤ 2) : pintleref03_Ints.f 5 l l = some true := by
  have loop : ∀ (d k : Nat) (i : Int), 0 ≤ i → i ≤ l.length → (l.length : Int) - i = d → d < k → pintleref03_Ints.l0 k l l i = some true := by
    intro d
    induction d with
    | zero =>
      intro k i h0 h1 hd hk
      obtain ⟨k, rfl⟩ : ∃ m, k = m + 1 := ⟨k - 1, by omega⟩
      simp only [pintleref03_Ints.l0]; rw [if_neg (by omega)]
    | succ d ih =>
      intro k i h0 h1 hd hk
      obtain ⟨k, rfl⟩ : ∃ m, k = m + 1 := ⟨k - 1, by omega⟩
      have hw : wrap64 (i + 1) = i + 1 := by unfold wrap64; omega
      simp only [pintleref03_Ints.l0]; rw [if_pos (by omega), if_pos h0, if_pos (by omega)]
      simp only [if_true]
      rw [hw]
      exact ih k (i + 1) (by omega) (by omega) (by omega) (by omega)
  unfold pintleref03_Ints.f
  rw [if_pos rfl]
  exact loop l.length 5 0 (by omega) (by omega) (by omega) (by omega)

theorem readL_length (op rd rs1 rs2 imm : Int) : (readL op rd rs1 rs2 imm).length ≤ 2 := by
  unfold readL
  repeat' split
  all_goals simp

theorem writes_is (k : Nat) (op rd rs1 rs2 imm : Int) : inst_Writes.f (k + 12) op rd rs1 rs2 imm = some (if okI op rd rs1 rs2 imm = true then rd else 0) := by
  obtain ⟨x, h1, _⟩ := word_is k op rd rs1 rs2 imm
  unfold inst_Writes.f
  rw [h1, obind]
  by_cases d : okI op rd rs1 rs2 imm = true
  · rw [if_pos d, if_pos d]
  · rw [if_neg d, if_neg d]

theorem last_regs (op rd rs1 rs2 imm x : Int) (h : x = if okI op rd rs1 rs2 imm = true then rd else 0) : pintlelaw03_InstRegs.j1 121 x op rd rs1 rs2 imm = some true := by
  have h1 : inst_Reads.f 120 op rd rs1 rs2 imm = _ := reads_is 107 op rd rs1 rs2 imm
  have h2 : pintleref03_Reads.f 120 op rd rs1 rs2 imm = _ := rreads_is 52 op rd rs1 rs2 imm
  have h3 : pintleref03_Ints.f 120 (readL op rd rs1 rs2 imm) (readL op rd rs1 rs2 imm) = some true := at_rounds (g := fun k => pintleref03_Ints.f k (readL op rd rs1 rs2 imm) (readL op rd rs1 rs2 imm)) (fun k => pintleref03_Ints.mono _ _ k) (show 5 ≤ 120 by decide) (ints_same _ (readL_length op rd rs1 rs2 imm))
  have h4 : inst_Writes.f 120 op rd rs1 rs2 imm = _ := writes_is 108 op rd rs1 rs2 imm
  have h5 := lives_is 120 (by decide)
  rw [show (121 : Nat) = 120 + 1 from rfl]
  generalize (120 : Nat) = K at *
  simp only [pintlelaw03_InstRegs.j1]
  rw [h1, obind, h2, obind, h3, obind, if_pos rfl, h4, obind, if_pos h.symm, h5, obind]

theorem InstRegs (op rd rs1 rs2 imm : Int) : ∃ k, pintlelaw03_InstRegs.f k op rd rs1 rs2 imm = some true := by
  refine ⟨122, ?_⟩
  have he : pintleref03_Encode.f 122 op rd rs1 rs2 imm = _ := renc_is 54 op rd rs1 rs2 imm
  unfold pintlelaw03_InstRegs.f
  rw [he, obind]
  have j : ∀ b : Bool, (if b = true then rd else 0) = (if okI op rd rs1 rs2 imm = true then rd else 0) → pintlelaw03_InstRegs.j0 122 0 b op rd rs1 rs2 imm = some true := by
    intro b hb
    have h1 := fun x h => last_regs op rd rs1 rs2 imm x h
    rw [show (122 : Nat) = 121 + 1 from rfl]
    generalize (121 : Nat) = K at h1
    simp only [pintlelaw03_InstRegs.j0]
    by_cases c : b = true
    · rw [if_pos c] at hb ⊢; exact h1 _ hb
    · rw [if_neg c] at hb ⊢; exact h1 _ hb
  by_cases c : 1 ≤ op ∧ op ≤ 46
  · rw [rof_in 122 (by decide) op c.1 c.2, obind]
    by_cases d : okI op rd rs1 rs2 imm = true
    · rw [if_pos d]
      refine j (hd op) ?_
      rw [if_pos d]
      by_cases e : hd op = true
      · rw [if_pos e]
      · rw [if_neg e]
        rw [(okI_in op rd rs1 rs2 imm c.1 c.2).1] at d
        rcases (regs_of op rd rs1 rs2 imm d).1 with h | h
        · exact h.symm
        · exact absurd h.1 e
    · rw [if_neg d]
      refine j false ?_
      rw [if_neg d]; rfl
  · rw [rof_out 122 (by decide) op (by omega), obind]
    by_cases d : okI op rd rs1 rs2 imm = true
    · rw [if_pos d]
      refine j false ?_
      rw [if_pos d, if_neg (by decide)]
      unfold okI at d
      by_cases e : op = 47 ∨ op = 48
      · rw [if_pos e] at d
        exact (of_decide_eq_true d).1.symm
      · rw [if_neg e, if_neg c] at d; cases d
    · rw [if_neg d]
      refine j false ?_
      rw [if_neg d]; rfl

end Go.Proofs.Ytmjiimajbaeicaa.Pure
