/- Each word that is an instruction's comes back from it (P3.4). -/
import Derived.Test.YtmjiimajbaeicaaInPB
import Derived.Test.YtmjiimajbaeicaaInPintlelaw03InstWords
namespace Go.Proofs.Ytmjiimajbaeicaa.Pure
set_option linter.unusedVariables false
open Go.RowKit Go.Proofs.Ytmjiimajbaeicaa.PInst Go.Proofs.YtmjiimajbaeicaaW.PrintWords Go.Proofs.YtmjiimajbaeicaaW.PrintLast Go.Proofs.YtmjiimajbaeicaaW.PrintMore ImmPlain


theorem wf_u32 {n : Int} (h : (Lit.int .u32 n).wf = true) : 0 ≤ n ∧ n < 4294967296 := by
  simp only [Lit.wf, Bool.and_eq_true, decide_eq_true_eq] at h
  have e1 : IntKind.u32.min = 0 := by decide
  have e2 : IntKind.u32.max = 4294967295 := by decide
  rw [e1, e2] at h
  omega

theorem wf_u8 {n : Int} (h : (Lit.int .u8 n).wf = true) : 0 ≤ n ∧ n < 256 := by
  simp only [Lit.wf, Bool.and_eq_true, decide_eq_true_eq] at h
  have e1 : IntKind.u8.min = 0 := by decide
  have e2 : IntKind.u8.max = 255 := by decide
  rw [e1, e2] at h
  omega

theorem enc110 (op rd rs1 rs2 imm : Int) : inst_Encode.f 110 op rd rs1 rs2 imm = some (if okI op rd rs1 rs2 imm = true then (wdI op rd rs1 rs2 imm, true) else (0, false)) := encode_is 98 op rd rs1 rs2 imm

/-- A word that has an operation from 1 to 46 is neither of the two others. -/
theorem not_two (op w : Int) (h0 : 1 ≤ op) (h1 : op ≤ 46) (h : Dec op w) : w ≠ 115 ∧ w ≠ 1048691 := by
  have hm := (dec_marks op w h0 h1 h).1
  have hn : lo op ≠ 115 := by
    obtain ⟨n, rfl⟩ := in_nat op h0 h1
    exact lo_not n
  constructor <;> (intro hw; subst hw; exact hn hm.symm)

/-- What an instruction's word comes back as. -/
theorem back (op rd rs1 rs2 imm : Int) (hok : okI op rd rs1 rs2 imm = true) : inst_Decode.f 110 (wdI op rd rs1 rs2 imm) = some (op, rd, rs1, rs2, imm, true) ∧ 0 ≤ wdI op rd rs1 rs2 imm ∧ wdI op rd rs1 rs2 imm < 4294967296 := by
  by_cases c : 1 ≤ op ∧ op ≤ 46
  · obtain ⟨e1, e2⟩ := okI_in op rd rs1 rs2 imm c.1 c.2
    rw [e1] at hok
    rw [e2]
    have hd := dec_of op rd rs1 rs2 imm _ c.1 c.2 hok rfl
    have hm := marks op rd rs1 rs2 imm _ c.1 c.2 hok rfl
    obtain ⟨g1, g2, g3, g4⟩ := comes_back op rd rs1 rs2 imm _ c.1 c.2 hok rfl
    obtain ⟨n1, n2⟩ := not_two op _ c.1 c.2 hd
    refine ⟨?_, hm.2.2.1, hm.2.2.2⟩
    rcases decode_is _ hm.2.2.1 hm.2.2.2 with h | h | ⟨_, _, o, o0, o1, od, h⟩ | ⟨_, _, h, _⟩
    · exact absurd h.1 n1
    · exact absurd h.1 n2
    · have := dec_one op o _ c.1 c.2 o0 o1 hd od
      subst this
      rw [h]
      unfold Hit
      rw [g1, g2, g3, g4]
    · exact absurd hd (h op c.1 c.2)
  · unfold okI at hok
    by_cases d : op = 47 ∨ op = 48
    · rw [if_pos d] at hok
      obtain ⟨rfl, rfl, rfl, rfl⟩ := of_decide_eq_true hok
      rcases d with rfl | rfl
      · refine ⟨?_, by decide, by decide⟩
        show inst_Decode.f 110 115 = _
        unfold inst_Decode.f; rw [if_pos rfl]
      · refine ⟨?_, by decide, by decide⟩
        show inst_Decode.f 110 1048691 = _
        unfold inst_Decode.f; rw [if_neg (by decide), if_pos rfl]
    · rw [if_neg d, if_neg c] at hok; cases hok

theorem can_is (op rd rs1 rs2 imm : Int) : inst_Can.f 110 op rd rs1 rs2 imm = some (okI op rd rs1 rs2 imm) := by
  obtain ⟨x, h1, h2⟩ := word_is 98 op rd rs1 rs2 imm
  unfold inst_Can.f
  rw [show (110 : Nat) = 98 + 12 from rfl, h1, obind]

theorem InstWords : pintlelaw03_InstWords.Pure := by
  intro w hw
  have hb := wf_u32 hw
  refine ⟨110, ?_⟩
  have fin : ∀ op rd rs1 rs2 imm, okI op rd rs1 rs2 imm = true → wdI op rd rs1 rs2 imm = w → inst_Decode.f 110 w = some (op, rd, rs1, rs2, imm, true) → pintlelaw03_InstWords.f 110 w = some true := by
    intro op rd rs1 rs2 imm h1 h2 h3
    unfold pintlelaw03_InstWords.f
    rw [h3, obind]
    show (if (true = true) then ((inst_Encode.f 110 op rd rs1 rs2 imm).bind _) else _) = _
    rw [if_pos rfl, enc110, if_pos h1, obind]
    show (if wdI op rd rs1 rs2 imm = w then (if (true = true) then ((inst_Can.f 110 op rd rs1 rs2 imm).bind _) else _) else _) = _
    rw [if_pos h2, if_pos rfl, can_is, obind, if_pos h1, lives_is 110 (by decide), obind]
  rcases decode_is w hb.1 hb.2 with ⟨h1, h2⟩ | ⟨h1, h2⟩ | ⟨_, _, o, o0, o1, od, h⟩ | ⟨_, _, _, h⟩
  · exact fin 47 0 0 0 0 (by decide) (by rw [h1]; decide) h2
  · exact fin 48 0 0 0 0 (by decide) (by rw [h1]; decide) h2
  · have i := okI_in o (gRd o w) (gR1 o w) (gR2 o w) (gIm o w) o0 o1
    exact fin o (gRd o w) (gR1 o w) (gR2 o w) (gIm o w) (i.1.trans od.1) (i.2.trans od.2) h
  · unfold pintlelaw03_InstWords.f
    rw [h, obind]
    unfold Miss
    show (if (false = true) then _ else (if ((0 : Int) == 0 && ((0 : Int) == 0 && ((0 : Int) == 0 && ((0 : Int) == 0 && ((0 : Int) == 0))))) = true then _ else _)) = _
    rw [if_neg (by decide), if_pos (by decide), lives_is 110 (by decide), obind]

end Go.Proofs.Ytmjiimajbaeicaa.Pure
