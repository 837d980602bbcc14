/- There are 48 operations, each with a word of its own (P3.1). -/
import Derived.Test.YtmjiimajbaeicaaInPB
import Derived.Test.YtmjiimajbaeicaaInPintlelaw03InstAll
namespace Go.Proofs.Ytmjiimajbaeicaa.Pure
set_option linter.unusedVariables false
open Go.RowKit Go.Proofs.Ytmjiimajbaeicaa.PInst Go.Proofs.YtmjiimajbaeicaaW.PrintWords Go.Proofs.YtmjiimajbaeicaaW.PrintLast Go.Proofs.YtmjiimajbaeicaaW.PrintMore ImmPlain


theorem wf_u32 {n : Int} (h : (Lit.int .u32 n).wf = true) : 0 ≤ n ∧ n < 4294967296 := by
  simp only [Lit.wf, Bool.and_eq_true, decide_eq_true_eq] at h
  have e1 : IntKind.u32.min = 0 := by decide
  have e2 : IntKind.u32.max = 4294967295 := by decide
  rw [e1, e2] at h
  omega

theorem wf_u8 {n : Int} (h : (Lit.int .u8 n).wf = true) : 0 ≤ n ∧ n < 256 := by
  simp only [Lit.wf, Bool.and_eq_true, decide_eq_true_eq] at h
  have e1 : IntKind.u8.min = 0 := by decide
  have e2 : IntKind.u8.max = 255 := by decide
  rw [e1, e2] at h
  omega

theorem enc110 (op rd rs1 rs2 imm : Int) : inst_Encode.f 110 op rd rs1 rs2 imm = some (if okI op rd rs1 rs2 imm = true then (wdI op rd rs1 rs2 imm, true) else (0, false)) := encode_is 98 op rd rs1 rs2 imm

/-- A word that has an operation from 1 to 46 is neither of the two others. -/
theorem not_two (op w : Int) (h0 : 1 ≤ op) (h1 : op ≤ 46) (h : Dec op w) : w ≠ 115 ∧ w ≠ 1048691 := by
  have hm := (dec_marks op w h0 h1 h).1
  have hn : lo op ≠ 115 := by
    obtain ⟨n, rfl⟩ := in_nat op h0 h1
    exact lo_not n
  constructor <;> (intro hw; subst hw; exact hn hm.symm)

/-- What an instruction's word comes back as. -/
theorem back (op rd rs1 rs2 imm : Int) (hok : okI op rd rs1 rs2 imm = true) : inst_Decode.f 110 (wdI op rd rs1 rs2 imm) = some (op, rd, rs1, rs2, imm, true) ∧ 0 ≤ wdI op rd rs1 rs2 imm ∧ wdI op rd rs1 rs2 imm < 4294967296 := by
  by_cases c : 1 ≤ op ∧ op ≤ 46
  · obtain ⟨e1, e2⟩ := okI_in op rd rs1 rs2 imm c.1 c.2
    rw [e1] at hok
    rw [e2]
    have hd := dec_of op rd rs1 rs2 imm _ c.1 c.2 hok rfl
    have hm := marks op rd rs1 rs2 imm _ c.1 c.2 hok rfl
    obtain ⟨g1, g2, g3, g4⟩ := comes_back op rd rs1 rs2 imm _ c.1 c.2 hok rfl
    obtain ⟨n1, n2⟩ := not_two op _ c.1 c.2 hd
    refine ⟨?_, hm.2.2.1, hm.2.2.2⟩
    rcases decode_is _ hm.2.2.1 hm.2.2.2 with h | h | ⟨_, _, o, o0, o1, od, h⟩ | ⟨_, _, h, _⟩
    · exact absurd h.1 n1
    · exact absurd h.1 n2
    · have := dec_one op o _ c.1 c.2 o0 o1 hd od
      subst this
      rw [h]
      unfold Hit
      rw [g1, g2, g3, g4]
    · exact absurd hd (h op c.1 c.2)
  · unfold okI at hok
    by_cases d : op = 47 ∨ op = 48
    · rw [if_pos d] at hok
      obtain ⟨rfl, rfl, rfl, rfl⟩ := of_decide_eq_true hok
      rcases d with rfl | rfl
      · refine ⟨?_, by decide, by decide⟩
        show inst_Decode.f 110 115 = _
        unfold inst_Decode.f; rw [if_pos rfl]
      · refine ⟨?_, by decide, by decide⟩
        show inst_Decode.f 110 1048691 = _
        unfold inst_Decode.f; rw [if_neg (by decide), if_pos rfl]
    · rw [if_neg d, if_neg c] at hok; cases hok

def allB (a b : Nat) : Bool := okI (1 + a) 0 0 0 0 && ((wdI (1 + a) 0 0 0 0 == wdI (1 + b) 0 0 0 0) == (a == b))
theorem all_chk : ∀ a : Fin 48, ∀ b : Fin 48, allB a.val b.val = true := by decide +kernel

theorem InstAll : pintlelaw03_InstAll.Pure := by
  intro a b ha hb
  have h1 := wf_u8 ha
  have h2 := wf_u8 hb
  refine ⟨110, ?_⟩
  have e1 : ∀ x : Int, 0 ≤ x → x < 256 → wrap64 (1 + wrap64 (Int.tmod x 48)) = 1 + x % 48 := by
    intro x x0 x1
    rw [Int.tmod_eq_emod_of_nonneg x0]
    unfold wrap64; omega
  have e2 : wrap64 (49 + wrap64 b) = 49 + b := by unfold wrap64; omega
  obtain ⟨i, hi⟩ : ∃ i : Fin 48, a % 48 = ((i.val : Nat) : Int) := ⟨⟨(a % 48).toNat, by omega⟩, by simp; omega⟩
  obtain ⟨j, hj⟩ : ∃ j : Fin 48, b % 48 = ((j.val : Nat) : Int) := ⟨⟨(b % 48).toNat, by omega⟩, by simp; omega⟩
  have k1 := all_chk i j
  have k2 := all_chk j i
  unfold allB at k1 k2
  simp only [Bool.and_eq_true] at k1 k2
  have e3 : okI (49 + b) 0 0 0 0 = false := by
    unfold okI; rw [if_neg (by omega), if_neg (by omega)]
  unfold pintlelaw03_InstAll.f
  rw [e1 a h1.1 h1.2, e1 b h2.1 h2.2, e2, enc110, enc110, enc110, obind, obind, obind, hi, hj, if_pos k1.1, if_pos k2.1, e3, if_neg (show ¬ (false = true) by decide)]
  show (if (true = true) then (if (true = true) then (if (false = true) then _ else _) else _) else _) = _
  rw [if_pos rfl, if_pos rfl, if_neg (by decide), Int.tmod_eq_emod_of_nonneg h1.1, Int.tmod_eq_emod_of_nonneg h2.1, hi, hj]
  have e4 : (((i.val : Nat) : Int) == ((j.val : Nat) : Int)) = (i.val == j.val) := by
    rw [Bool.eq_iff_iff, beq_iff_eq, beq_iff_eq]; omega
  rw [e4]
  show (if ((wdI (1 + (i.val : Int)) 0 0 0 0 == wdI (1 + (j.val : Int)) 0 0 0 0) == (i.val == j.val)) = true then _ else _) = _
  rw [if_pos k1.2, lives_is 110 (by decide), obind]

end Go.Proofs.Ytmjiimajbaeicaa.Pure
