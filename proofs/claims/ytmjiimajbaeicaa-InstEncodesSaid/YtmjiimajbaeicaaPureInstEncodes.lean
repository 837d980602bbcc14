/- Any instruction's word, or that it has none, is as the document says (P3.1, P3.2). -/
import Derived.Test.YtmjiimajbaeicaaInPC
import Derived.Test.YtmjiimajbaeicaaInPintlelaw03InstEncodes
namespace Go.Proofs.Ytmjiimajbaeicaa.Pure
set_option linter.unusedVariables false
open Go.RowKit Go.Proofs.Ytmjiimajbaeicaa.PInst Go.Proofs.YtmjiimajbaeicaaW.PrintWords Go.Proofs.YtmjiimajbaeicaaW.PrintLast Go.Proofs.YtmjiimajbaeicaaW.PrintMore ImmPlain


theorem can_is (k : Nat) (op rd rs1 rs2 imm : Int) : inst_Can.f (k + 12) op rd rs1 rs2 imm = some (okI op rd rs1 rs2 imm) := by
  obtain ⟨x, h1, h2⟩ := word_is k op rd rs1 rs2 imm
  unfold inst_Can.f
  rw [h1, obind]

theorem InstEncodes (op rd rs1 rs2 imm : Int) : ∃ k, pintlelaw03_InstEncodes.f k op rd rs1 rs2 imm = some true := by
  refine ⟨110, ?_⟩
  unfold pintlelaw03_InstEncodes.f
  rw [show pintleref03_Encode.f 110 op rd rs1 rs2 imm = _ from renc_is 42 op rd rs1 rs2 imm, show inst_Encode.f 110 op rd rs1 rs2 imm = _ from encode_is 98 op rd rs1 rs2 imm, show inst_Can.f 110 op rd rs1 rs2 imm = _ from can_is 98 op rd rs1 rs2 imm, obind, obind, obind, if_pos rfl, if_pos (by rw [beq_self_eq_true]), lives_is 110 (by decide), obind]
  have e : (if okI op rd rs1 rs2 imm = true then (wdI op rd rs1 rs2 imm, true) else (0, false)).2 = okI op rd rs1 rs2 imm := by
    by_cases c : okI op rd rs1 rs2 imm = true
    · rw [if_pos c, c]
    · rw [if_neg c]; exact (Bool.eq_false_iff.mpr c).symm
  rw [e, beq_self_eq_true, if_pos rfl]

end Go.Proofs.Ytmjiimajbaeicaa.Pure
