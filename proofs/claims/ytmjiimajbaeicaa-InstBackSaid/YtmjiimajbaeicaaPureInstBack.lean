/- Each instruction that has a word comes back from it (P3.4). -/
import Derived.Test.YtmjiimajbaeicaaInPB
import Derived.Test.YtmjiimajbaeicaaInPintlelaw03InstBack
namespace Go.Proofs.Ytmjiimajbaeicaa.Pure
set_option linter.unusedVariables false
open Go.RowKit Go.Proofs.Ytmjiimajbaeicaa.PInst Go.Proofs.YtmjiimajbaeicaaW.PrintWords Go.Proofs.YtmjiimajbaeicaaW.PrintLast Go.Proofs.YtmjiimajbaeicaaW.PrintMore ImmPlain


theorem wf_u32 {n : Int} (h : (Lit.int .u32 n).wf = true) : 0 ≤ n ∧ n < 4294967296 := by
  simp only [Lit.wf, Bool.and_eq_true, decide_eq_true_eq] at h
  have e1 : IntKind.u32.min = 0 := by decide
  have e2 : IntKind.u32.max = 4294967295 := by decide
  rw [e1, e2] at h
  omega

theorem wf_u8 {n : Int} (h : (Lit.int .u8 n).wf = true) : 0 ≤ n ∧ n < 256 := by
  simp only [Lit.wf, Bool.and_eq_true, decide_eq_true_eq] at h
  have e1 : IntKind.u8.min = 0 := by decide
  have e2 : IntKind.u8.max = 255 := by decide
  rw [e1, e2] at h
  omega

theorem enc110 (op rd rs1 rs2 imm : Int) : inst_Encode.f 110 op rd rs1 rs2 imm = some (if okI op rd rs1 rs2 imm = true then (wdI op rd rs1 rs2 imm, true) else (0, false)) := encode_is 98 op rd rs1 rs2 imm

/-- A word that has an operation from 1 to 46 is neither of the two others. -/
theorem not_two (op w : Int) (h0 : 1 ≤ op) (h1 : op ≤ 46) (h : Dec op w) : w ≠ 115 ∧ w ≠ 1048691 := by
  have hm := (dec_marks op w h0 h1 h).1
  have hn : lo op ≠ 115 := by
    obtain ⟨n, rfl⟩ := in_nat op h0 h1
    exact lo_not n
  constructor <;> (intro hw; subst hw; exact hn hm.symm)

/-- What an instruction's word comes back as. -/
theorem back (op rd rs1 rs2 imm : Int) (hok : okI op rd rs1 rs2 imm = true) : inst_Decode.f 110 (wdI op rd rs1 rs2 imm) = some (op, rd, rs1, rs2, imm, true) ∧ 0 ≤ wdI op rd rs1 rs2 imm ∧ wdI op rd rs1 rs2 imm < 4294967296 := by
  by_cases c : 1 ≤ op ∧ op ≤ 46
  · obtain ⟨e1, e2⟩ := okI_in op rd rs1 rs2 imm c.1 c.2
    rw [e1] at hok
    rw [e2]
    have hd := dec_of op rd rs1 rs2 imm _ c.1 c.2 hok rfl
    have hm := marks op rd rs1 rs2 imm _ c.1 c.2 hok rfl
    obtain ⟨g1, g2, g3, g4⟩ := comes_back op rd rs1 rs2 imm _ c.1 c.2 hok rfl
    obtain ⟨n1, n2⟩ := not_two op _ c.1 c.2 hd
    refine ⟨?_, hm.2.2.1, hm.2.2.2⟩
    rcases decode_is _ hm.2.2.1 hm.2.2.2 with h | h | ⟨_, _, o, o0, o1, od, h⟩ | ⟨_, _, h, _⟩
    · exact absurd h.1 n1
    · exact absurd h.1 n2
    · have := dec_one op o _ c.1 c.2 o0 o1 hd od
      subst this
      rw [h]
      unfold Hit
      rw [g1, g2, g3, g4]
    · exact absurd hd (h op c.1 c.2)
  · unfold okI at hok
    by_cases d : op = 47 ∨ op = 48
    · rw [if_pos d] at hok
      obtain ⟨rfl, rfl, rfl, rfl⟩ := of_decide_eq_true hok
      rcases d with rfl | rfl
      · refine ⟨?_, by decide, by decide⟩
        show inst_Decode.f 110 115 = _
        unfold inst_Decode.f; rw [if_pos rfl]
      · refine ⟨?_, by decide, by decide⟩
        show inst_Decode.f 110 1048691 = _
        unfold inst_Decode.f; rw [if_neg (by decide), if_pos rfl]
    · rw [if_neg d, if_neg c] at hok; cases hok

theorem InstBack (op rd rs1 rs2 imm : Int) : ∃ k, pintlelaw03_InstBack.f k op rd rs1 rs2 imm = some true := by
  refine ⟨110, ?_⟩
  unfold pintlelaw03_InstBack.f
  rw [enc110, obind, lives_is 110 (by decide)]
  by_cases c : okI op rd rs1 rs2 imm = true
  · rw [if_pos c]
    show (if (true = true) then _ else _) = _
    rw [if_pos rfl, (back op rd rs1 rs2 imm c).1, obind]
    show (if (op == op && (rd == rd && (rs1 == rs1 && (rs2 == rs2 && (imm == imm))))) = true then (if (true = true) then _ else _) else _) = _
    simp only [beq_self_eq_true, Bool.and_self, if_true, Option.bind_some]
  · rw [if_neg c]
    show (if (false = true) then _ else (if (0 : Int) = 0 then _ else _)) = _
    rw [if_neg (by decide), if_pos rfl, obind]

end Go.Proofs.Ytmjiimajbaeicaa.Pure
