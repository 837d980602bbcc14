/- The program's words as instructions: one operation at most fits a word. -/
import Derived.Test.YtmjiimajbaeicaaInPA
import Derived.Test.YtmjiimajbaeicaaInInstDecode
import Derived.Test.YtmjiimajbaeicaaInPintlelaw03Lives
namespace Go.Proofs.Ytmjiimajbaeicaa.Pure
set_option linter.unusedVariables false
open Go.RowKit Go.Proofs.Ytmjiimajbaeicaa.PInst Go.Proofs.YtmjiimajbaeicaaW.PrintWords Go.Proofs.YtmjiimajbaeicaaW.PrintLast Go.Proofs.YtmjiimajbaeicaaW.PrintMore ImmPlain


/-! ### words into instructions -/
theorem and127 (w : Int) (h0 : 0 ≤ w) (h1 : w < 4294967296) : Go.bits .and .u32 w 127 = w % 128 := and_mask 7 (by decide) w h0 h1
theorem and7 (w : Int) (h0 : 0 ≤ w) (h1 : w < 4294967296) : Go.bits .and .u32 w 7 = w % 8 := and_mask 3 (by decide) w h0 h1

theorem part_is (w : Int) (f m : Nat) (F M : Int) (eF : (2 : Int) ^ f = F) (eM : (2 : Int) ^ m = M) (hf : f ≤ 31) (hm : m ≤ 31) (h0 : 0 ≤ w) (h1 : w < 4294967296) : inst_part.f w f m = some (w / F % M) := by
  subst eF eM
  have hp : (0 : Int) < 2 ^ f := Int.pow_pos (by decide)
  have hM : (0 : Int) < 2 ^ m := Int.pow_pos (by decide)
  have hx0 : 0 ≤ w / 2 ^ f := Int.ediv_nonneg h0 (Int.le_of_lt hp)
  have hx1 : w / 2 ^ f < 4294967296 := Int.lt_of_le_of_lt (Int.ediv_le_self _ h0) h1
  have hm2 : (2 : Int) ^ m ≤ 2147483648 := by
    have := Int.ofNat_le.mpr (Nat.pow_le_pow_right (n := 2) (by decide) hm)
    rw [Int.natCast_pow, Int.natCast_pow] at this
    exact this
  unfold inst_part.f
  rw [if_pos (by omega), if_pos (by omega), shrC w f (by omega)]
  have e : (shl .u32 1 (m : Int) - 1) % 4294967296 = 2 ^ m - 1 := by
    have := mask_is m (by omega)
    unfold imm_mask.f at this
    rw [if_pos (by omega)] at this
    exact Option.some.inj this
  rw [e, and_mask m (by omega) _ hx0 hx1]
  have a0 := Int.emod_nonneg (w / 2 ^ f) (show (2 : Int) ^ m ≠ 0 by omega)
  have a1 := Int.emod_lt_of_pos (w / 2 ^ f) hM
  congr 1
  unfold wrap64
  omega

def gRd (op w : Int) : Int := if hd op = true then w / 128 % 32 else 0
def gR1 (op w : Int) : Int := if ha op = true then w / 32768 % 32 else 0
def gR2 (op w : Int) : Int := if hb op = true then w / 1048576 % 32 else 0
def gIm (op w : Int) : Int := if hs op = true then w / 1048576 % 32 else getN (fm op) w

theorem made_is (k : Nat) (op w : Int) (ho0 : 1 ≤ op) (ho1 : op ≤ 46) (h0 : 0 ≤ w) (h1 : w < 4294967296) : inst_made.f (k + 9) op w = some (op, gRd op w, gR1 op w, gR2 op w, gIm op w) := by
  have p1 : inst_part.f w 7 5 = some (w / 128 % 32) := part_is w 7 5 128 32 rfl rfl (by decide) (by decide) h0 h1
  have p2 : inst_part.f w 15 5 = some (w / 32768 % 32) := part_is w 15 5 32768 32 rfl rfl (by decide) (by decide) h0 h1
  have p3 : inst_part.f w 20 5 = some (w / 1048576 % 32) := part_is w 20 5 1048576 32 rfl rfl (by decide) (by decide) h0 h1
  have hg : imm_Get.f (k + 6) (fm op) w = some (getN (fm op) w) := by unfold imm_Get.f; rw [get_is k (fm op) w h0 h1, obind]
  have j2 : ∀ a b c, inst_made.j2 (k + 6 + 1) w (lo op) (th op) (sv op) (fm op) (hd op) (ha op) (hb op) (hs op) op a b c 0 = some (op, a, b, c, gIm op w) := by
    intro a b c
    generalize k + 6 = K at hg
    simp only [inst_made.j2]
    unfold gIm
    by_cases c1 : hs op = true
    · rw [if_pos c1, if_pos c1, p3, obind]
      congr 5
      unfold wrap32; omega
    · rw [if_neg c1, if_neg c1, hg, obind]
  have j1 : ∀ a b, inst_made.j1 (k + 6 + 1 + 1) w (lo op) (th op) (sv op) (fm op) (hd op) (ha op) (hb op) (hs op) op a b 0 0 = some (op, a, b, gR2 op w, gIm op w) := by
    intro a b
    generalize k + 6 + 1 = K at j2
    simp only [inst_made.j1]
    unfold gR2
    by_cases c1 : hb op = true
    · rw [if_pos c1, if_pos c1, p3, obind, j2]
    · rw [if_neg c1, if_neg c1, j2]
  have j0 : ∀ a, inst_made.j0 (k + 6 + 1 + 1 + 1) w (lo op) (th op) (sv op) (fm op) (hd op) (ha op) (hb op) (hs op) op a 0 0 0 = some (op, a, gR1 op w, gR2 op w, gIm op w) := by
    intro a
    generalize k + 6 + 1 + 1 = K at j1
    simp only [inst_made.j0]
    unfold gR1
    by_cases c1 : ha op = true
    · rw [if_pos c1, if_pos c1, p2, obind, j1]
    · rw [if_neg c1, if_neg c1, j1]
  unfold inst_made.f
  rw [of_in (k + 9) (by omega) op ho0 ho1, obind]
  unfold gRd
  by_cases c1 : hd op = true
  · rw [if_pos c1, if_pos c1, p1, obind]; exact j0 _
  · rw [if_neg c1, if_neg c1]; exact j0 _

def likeB (op w : Int) : Bool := decide (fm op = 4 ∨ fm op = 5 ∨ (w / 4096 % 8 = th op ∧ (fm op = 0 → w / 33554432 = sv op)))

theorem like_is (k : Nat) (op w : Int) (ho0 : 1 ≤ op) (ho1 : op ≤ 46) (h0 : 0 ≤ w) (h1 : w < 4294967296) : inst_like.f (k + 2) op w = some (likeB op w) := by
  unfold inst_like.f likeB
  rw [of_in (k + 2) (by omega) op ho0 ho1, obind]
  rw [and7 (w / 4096) (by omega) (by omega)]
  show (if fm op = 4 then some true else if fm op = 5 then some true else if w / 4096 % 8 = th op then if fm op = 0 then some (w / 33554432 == sv op) else some true else some false) = _
  by_cases c1 : fm op = 4
  · rw [if_pos c1, decide_eq_true (.inl c1)]
  · rw [if_neg c1]
    by_cases c2 : fm op = 5
    · rw [if_pos c2, decide_eq_true (.inr (.inl c2))]
    · rw [if_neg c2]
      by_cases c3 : w / 4096 % 8 = th op
      · rw [if_pos c3]
        by_cases c4 : fm op = 0
        · rw [if_pos c4]
          congr 1
          rw [Bool.eq_iff_iff, beq_iff_eq, decide_eq_true_eq]
          exact ⟨fun h => .inr (.inr ⟨c3, fun _ => h⟩), fun h => by rcases h with h | h | h; exact absurd h c1; exact absurd h c2; exact h.2 c4⟩
        · rw [if_neg c4, decide_eq_true (.inr (.inr ⟨c3, fun h => absurd h c4⟩))]
      · rw [if_neg c3, decide_eq_false (by rintro (h | h | h); exact c1 h; exact c2 h; exact c3 h.1)]

/-- That the instruction of this operation that a word would be has this word. -/
def Dec (op w : Int) : Prop := okV op (gRd op w) (gR1 op w) (gR2 op w) (gIm op w) = true ∧ wdV op (gRd op w) (gR1 op w) (gR2 op w) (gIm op w) = w

instance (op w : Int) : Decidable (Dec op w) := by unfold Dec; infer_instance

/-- What it adds to a word, beside the registers. -/
theorem immW_lies (op imm : Int) (h0 : 1 ≤ op) (h1 : op ≤ 46) (hok : immOk op imm = true) :
    (fm op = 0 ∧ hs op = false ∧ immW op imm = 0) ∨ (fm op = 0 ∧ hs op = true ∧ ∃ A, 0 ≤ A ∧ A < 32 ∧ immW op imm = A * 1048576) ∨ (fm op = 1 ∧ ∃ A, 0 ≤ A ∧ A < 4096 ∧ immW op imm = A * 1048576) ∨
    ((fm op = 2 ∨ fm op = 3) ∧ ∃ A B, 0 ≤ A ∧ A < 128 ∧ 0 ≤ B ∧ B < 32 ∧ immW op imm = A * 33554432 + B * 128) ∨ ((fm op = 4 ∨ fm op = 5) ∧ ∃ A, 0 ≤ A ∧ A < 1048576 ∧ immW op imm = A * 4096) := by
  obtain ⟨_, hc⟩ := cls op h0 h1
  obtain ⟨⟨A1, a10, a11, e1⟩, ⟨A2, B2, a20, a21, b20, b21, e2⟩, ⟨A3, B3, a30, a31, b30, b31, e3⟩, ⟨A4, a40, a41, e4⟩, ⟨A5, a50, a51, e5⟩⟩ := p_lies (imm % 4294967296)
  unfold immOk at hok
  unfold immW
  generalize fm op = f at *
  generalize hd op = d at *
  generalize ha op = a at *
  generalize hb op = b at *
  generalize hs op = x at *
  rcases hc with ⟨rfl, rfl, rfl, rfl, rfl⟩ | ⟨rfl, rfl, rfl, rfl, rfl⟩ | ⟨rfl, rfl, rfl, rfl, rfl, _⟩ | ⟨rfl, rfl, rfl, rfl, rfl, _⟩ | ⟨rfl, rfl, rfl, rfl, rfl, _⟩ | ⟨rfl, rfl, rfl, rfl, rfl, _, _⟩ | ⟨rfl, rfl, rfl, rfl, rfl, _, _⟩ | ⟨rfl, rfl, rfl, rfl, rfl, _, _⟩
  · exact .inl ⟨rfl, rfl, by rw [if_neg (by decide), if_pos rfl]⟩
  · rw [if_pos rfl] at hok
    have r5 := of_decide_eq_true hok
    exact .inr (.inl ⟨rfl, rfl, imm, r5.1, r5.2, by rw [if_pos rfl]⟩)
  · exact .inr (.inr (.inl ⟨rfl, A1, a10, a11, by rw [if_neg (by decide), if_neg (by decide), putN_1, e1]⟩))
  · exact .inr (.inr (.inr (.inl ⟨.inl rfl, A2, B2, a20, a21, b20, b21, by rw [if_neg (by decide), if_neg (by decide), putN_2, e2]⟩)))
  · exact .inr (.inr (.inr (.inl ⟨.inr rfl, A3, B3, a30, a31, b30, b31, by rw [if_neg (by decide), if_neg (by decide), putN_3, e3]⟩)))
  · exact .inr (.inr (.inr (.inr ⟨.inl rfl, A4, a40, a41, by rw [if_neg (by decide), if_neg (by decide), putN_4, e4]⟩)))
  · exact .inr (.inr (.inr (.inr ⟨.inr rfl, A5, a50, a51, by rw [if_neg (by decide), if_neg (by decide), putN_5, e5]⟩)))
  · exact .inr (.inr (.inl ⟨rfl, A1, a10, a11, by rw [if_neg (by decide), if_neg (by decide), putN_1, e1]⟩))

/-- Any instruction's word bears its operation's marks. -/
theorem marks (op rd rs1 rs2 imm w : Int) (h0 : 1 ≤ op) (h1 : op ≤ 46) (hok : okV op rd rs1 rs2 imm = true) (hw : wdV op rd rs1 rs2 imm = w) : w % 128 = lo op ∧ likeB op w = true ∧ 0 ≤ w ∧ w < 4294967296 := by
  obtain ⟨r1, r2, r3, r4⟩ := regs_of op rd rs1 rs2 imm hok
  obtain ⟨⟨b1, b2, b3, b4, b5, b6⟩, hc⟩ := cls op h0 h1
  have hl := immW_lies op imm h0 h1 r4
  unfold wdV at hw
  unfold likeB
  rw [decide_eq_true_eq]
  generalize immW op imm = I at *
  generalize lo op = l at *
  generalize th op = t at *
  generalize sv op = s at *
  generalize fm op = f at *
  generalize hd op = d at *
  generalize ha op = a at *
  generalize hb op = b at *
  generalize hs op = x at *
  rcases hc with ⟨rfl, rfl, rfl, rfl, rfl⟩ | ⟨rfl, rfl, rfl, rfl, rfl⟩ | ⟨rfl, rfl, rfl, rfl, rfl, rfl⟩ | ⟨rfl, rfl, rfl, rfl, rfl, rfl⟩ | ⟨rfl, rfl, rfl, rfl, rfl, rfl⟩ | ⟨rfl, rfl, rfl, rfl, rfl, rfl, rfl⟩ | ⟨rfl, rfl, rfl, rfl, rfl, rfl, rfl⟩ | ⟨rfl, rfl, rfl, rfl, rfl, rfl, rfl⟩
  all_goals simp only [Bool.false_eq_true, false_and, or_false, true_and] at r1 r2 r3
  · have hI : I = 0 := by
      rcases hl with ⟨_, _, h⟩ | ⟨_, h, _⟩ | ⟨h, _⟩ | ⟨h, _⟩ | ⟨h, _⟩
      · exact h
      · cases h
      · exact absurd h (by decide)
      · exact absurd h (by decide)
      · exact absurd h (by decide)
    exact ⟨by omega, .inr (.inr ⟨by omega, fun _ => by omega⟩), by omega, by omega⟩
  · obtain ⟨A, hA0, hA1, hI⟩ : ∃ A, 0 ≤ A ∧ A < 32 ∧ I = A * 1048576 := by
      rcases hl with ⟨_, h, _⟩ | ⟨_, _, h⟩ | ⟨h, _⟩ | ⟨h, _⟩ | ⟨h, _⟩
      · cases h
      · exact h
      · exact absurd h (by decide)
      · exact absurd h (by decide)
      · exact absurd h (by decide)
    exact ⟨by omega, .inr (.inr ⟨by omega, fun _ => by omega⟩), by omega, by omega⟩
  · obtain ⟨A, hA0, hA1, hI⟩ : ∃ A, 0 ≤ A ∧ A < 4096 ∧ I = A * 1048576 := by
      rcases hl with ⟨h, _⟩ | ⟨h, _⟩ | ⟨_, h⟩ | ⟨h, _⟩ | ⟨h, _⟩
      · exact absurd h (by decide)
      · exact absurd h (by decide)
      · exact h
      · exact absurd h (by decide)
      · exact absurd h (by decide)
    exact ⟨by omega, .inr (.inr ⟨by omega, fun h => absurd h (by decide)⟩), by omega, by omega⟩
  · obtain ⟨A, B, hA0, hA1, hB0, hB1, hI⟩ : ∃ A B, 0 ≤ A ∧ A < 128 ∧ 0 ≤ B ∧ B < 32 ∧ I = A * 33554432 + B * 128 := by
      rcases hl with ⟨h, _⟩ | ⟨h, _⟩ | ⟨h, _⟩ | ⟨_, h⟩ | ⟨h, _⟩
      · exact absurd h (by decide)
      · exact absurd h (by decide)
      · exact absurd h (by decide)
      · exact h
      · exact absurd h (by decide)
    exact ⟨by omega, .inr (.inr ⟨by omega, fun h => absurd h (by decide)⟩), by omega, by omega⟩
  · obtain ⟨A, B, hA0, hA1, hB0, hB1, hI⟩ : ∃ A B, 0 ≤ A ∧ A < 128 ∧ 0 ≤ B ∧ B < 32 ∧ I = A * 33554432 + B * 128 := by
      rcases hl with ⟨h, _⟩ | ⟨h, _⟩ | ⟨h, _⟩ | ⟨_, h⟩ | ⟨h, _⟩
      · exact absurd h (by decide)
      · exact absurd h (by decide)
      · exact absurd h (by decide)
      · exact h
      · exact absurd h (by decide)
    exact ⟨by omega, .inr (.inr ⟨by omega, fun h => absurd h (by decide)⟩), by omega, by omega⟩
  · obtain ⟨A, hA0, hA1, hI⟩ : ∃ A, 0 ≤ A ∧ A < 1048576 ∧ I = A * 4096 := by
      rcases hl with ⟨h, _⟩ | ⟨h, _⟩ | ⟨h, _⟩ | ⟨h, _⟩ | ⟨_, h⟩
      · exact absurd h (by decide)
      · exact absurd h (by decide)
      · exact absurd h (by decide)
      · exact absurd h (by decide)
      · exact h
    exact ⟨by omega, .inl rfl, by omega, by omega⟩
  · obtain ⟨A, hA0, hA1, hI⟩ : ∃ A, 0 ≤ A ∧ A < 1048576 ∧ I = A * 4096 := by
      rcases hl with ⟨h, _⟩ | ⟨h, _⟩ | ⟨h, _⟩ | ⟨h, _⟩ | ⟨_, h⟩
      · exact absurd h (by decide)
      · exact absurd h (by decide)
      · exact absurd h (by decide)
      · exact absurd h (by decide)
      · exact h
    exact ⟨by omega, .inr (.inl rfl), by omega, by omega⟩
  · obtain ⟨A, hA0, hA1, hI⟩ : ∃ A, 0 ≤ A ∧ A < 4096 ∧ I = A * 1048576 := by
      rcases hl with ⟨h, _⟩ | ⟨h, _⟩ | ⟨_, h⟩ | ⟨h, _⟩ | ⟨h, _⟩
      · exact absurd h (by decide)
      · exact absurd h (by decide)
      · exact h
      · exact absurd h (by decide)
      · exact absurd h (by decide)
    exact ⟨by omega, .inr (.inr ⟨by omega, fun h => absurd h (by decide)⟩), by omega, by omega⟩

/-- And out of it come its parts. -/
theorem comes_back (op rd rs1 rs2 imm w : Int) (h0 : 1 ≤ op) (h1 : op ≤ 46) (hok : okV op rd rs1 rs2 imm = true) (hw : wdV op rd rs1 rs2 imm = w) : gRd op w = rd ∧ gR1 op w = rs1 ∧ gR2 op w = rs2 ∧ gIm op w = imm := by
  obtain ⟨r1, r2, r3, r4⟩ := regs_of op rd rs1 rs2 imm hok
  obtain ⟨⟨b1, b2, b3, b4, b5, b6⟩, hc⟩ := cls op h0 h1
  have put : ∀ f : Int, (putR f imm).2 = true → 1 ≤ f ∧ f ≤ 5 ∧ getN f (putN f (imm % 4294967296)) = imm := by
    intro f hf
    unfold putR at hf
    by_cases c : 1 ≤ f ∧ f ≤ 5 ∧ getN f (putN f (imm % 4294967296)) = imm
    · exact c
    · rw [if_neg c] at hf; cases hf
  obtain ⟨⟨A1, a10, a11, e1⟩, ⟨A2, B2, a20, a21, b20, b21, e2⟩, ⟨A3, B3, a30, a31, b30, b31, e3⟩, ⟨A4, a40, a41, e4⟩, ⟨A5, a50, a51, e5⟩⟩ := p_lies (imm % 4294967296)
  unfold wdV immW at hw
  unfold immOk at r4
  unfold gRd gR1 gR2 gIm
  generalize lo op = l at *
  generalize th op = t at *
  generalize sv op = s at *
  generalize fm op = f at *
  generalize hd op = d at *
  generalize ha op = a at *
  generalize hb op = b at *
  generalize hs op = x at *
  rcases hc with ⟨rfl, rfl, rfl, rfl, rfl⟩ | ⟨rfl, rfl, rfl, rfl, rfl⟩ | ⟨rfl, rfl, rfl, rfl, rfl, rfl⟩ | ⟨rfl, rfl, rfl, rfl, rfl, rfl⟩ | ⟨rfl, rfl, rfl, rfl, rfl, rfl⟩ | ⟨rfl, rfl, rfl, rfl, rfl, rfl, rfl⟩ | ⟨rfl, rfl, rfl, rfl, rfl, rfl, rfl⟩ | ⟨rfl, rfl, rfl, rfl, rfl, rfl, rfl⟩
  all_goals simp only [Bool.false_eq_true, false_and, or_false, true_and, if_true, if_false] at r1 r2 r3 r4 hw ⊢
  · have r5 := of_decide_eq_true r4
    refine ⟨by omega, by omega, by omega, ?_⟩
    rw [getN_none 0 w (by omega)]; exact r5.symm
  · have r5 := of_decide_eq_true r4
    exact ⟨by omega, by omega, by omega, by omega⟩
  · obtain ⟨_, _, g⟩ := put 1 r4
    rw [if_neg (by decide), putN_1] at hw
    rw [putN_1, getN_1, e1] at g
    rw [e1] at hw
    refine ⟨by omega, by omega, by omega, ?_⟩
    rw [getN_1, ← g]
    unfold g1
    rw [show w / 1048576 % 4096 = A1 by omega, show A1 * 1048576 / 1048576 % 4096 = A1 by omega]
  · obtain ⟨_, _, g⟩ := put 2 r4
    rw [if_neg (by decide), putN_2] at hw
    rw [putN_2, getN_2, e2] at g
    rw [e2] at hw
    refine ⟨by omega, by omega, by omega, ?_⟩
    rw [getN_2, ← g]
    unfold g2
    rw [show w / 33554432 % 128 = A2 by omega, show w / 128 % 32 = B2 by omega, show (A2 * 33554432 + B2 * 128) / 33554432 % 128 = A2 by omega, show (A2 * 33554432 + B2 * 128) / 128 % 32 = B2 by omega]
  · obtain ⟨_, _, g⟩ := put 3 r4
    rw [if_neg (by decide), putN_3] at hw
    rw [putN_3, getN_3, e3] at g
    rw [e3] at hw
    refine ⟨by omega, by omega, by omega, ?_⟩
    rw [getN_3, ← g, g3_is, g3_is]
    have q1 : w / 33554432 % 128 = A3 := by omega
    have q2 : w / 128 % 32 = B3 := by omega
    have u1 : w / 2147483648 = w / 33554432 / 64 := by omega
    have u2 : w / 256 = w / 128 / 2 := by omega
    have v1 : (A3 * 33554432 + B3 * 128) / 33554432 = A3 := by omega
    have v2 : (A3 * 33554432 + B3 * 128) / 128 % 32 = B3 := by omega
    have v3 : (A3 * 33554432 + B3 * 128) / 2147483648 = (A3 * 33554432 + B3 * 128) / 33554432 / 64 := by omega
    have v4 : (A3 * 33554432 + B3 * 128) / 256 = (A3 * 33554432 + B3 * 128) / 128 / 2 := by omega
    rw [u1, u2, v3, v4, v1]
    omega
  · obtain ⟨_, _, g⟩ := put 4 r4
    rw [if_neg (by decide), putN_4] at hw
    rw [putN_4, getN_4, e4] at g
    rw [e4] at hw
    refine ⟨by omega, by omega, by omega, ?_⟩
    rw [getN_4, ← g]
    unfold g4
    rw [show w / 4096 % 1048576 = A4 by omega, show A4 * 4096 / 4096 % 1048576 = A4 by omega]
  · obtain ⟨_, _, g⟩ := put 5 r4
    rw [if_neg (by decide), putN_5] at hw
    rw [putN_5, getN_5, e5] at g
    rw [e5] at hw
    refine ⟨by omega, by omega, by omega, ?_⟩
    rw [getN_5, ← g, g5_is, g5_is]
    have q1 : w / 4096 = A5 := by omega
    have u1 : w / 2147483648 = w / 4096 / 524288 := by omega
    have u2 : w / 1048576 = w / 4096 / 256 := by omega
    have u3 : w / 2097152 = w / 4096 / 512 := by omega
    have v1 : A5 * 4096 / 4096 = A5 := by omega
    have v2 : A5 * 4096 / 2147483648 = A5 * 4096 / 4096 / 524288 := by omega
    have v3 : A5 * 4096 / 1048576 = A5 * 4096 / 4096 / 256 := by omega
    have v4 : A5 * 4096 / 2097152 = A5 * 4096 / 4096 / 512 := by omega
    rw [u1, u2, u3, v2, v3, v4, v1, q1]
  · obtain ⟨_, _, g⟩ := put 1 r4
    rw [if_neg (by decide), putN_1] at hw
    rw [putN_1, getN_1, e1] at g
    rw [e1] at hw
    refine ⟨by omega, by omega, by omega, ?_⟩
    rw [getN_1, ← g]
    unfold g1
    rw [show w / 1048576 % 4096 = A1 by omega, show A1 * 1048576 / 1048576 % 4096 = A1 by omega]

theorem dec_of (op rd rs1 rs2 imm w : Int) (h0 : 1 ≤ op) (h1 : op ≤ 46) (hok : okV op rd rs1 rs2 imm = true) (hw : wdV op rd rs1 rs2 imm = w) : Dec op w := by
  obtain ⟨e1, e2, e3, e4⟩ := comes_back op rd rs1 rs2 imm w h0 h1 hok hw
  unfold Dec
  rw [e1, e2, e3, e4]
  exact ⟨hok, hw⟩

theorem dec_marks (op w : Int) (h0 : 1 ≤ op) (h1 : op ≤ 46) (h : Dec op w) : w % 128 = lo op ∧ likeB op w = true := by
  have := marks op _ _ _ _ w h0 h1 h.1 h.2
  exact ⟨this.1, this.2.1⟩

def uniB (p q : Nat) : Bool := decide (lo p = lo q → (fm p = 4 ∨ fm p = 5 ∨ (th p = th q ∧ (fm p = 0 → fm q = 0 → sv p = sv q))) → p = q)
theorem uni_chk : ∀ p : Fin 46, ∀ q : Fin 46, uniB (p.val + 1) (q.val + 1) = true := by decide +kernel

/-- One operation alone fits a word. -/
theorem dec_one (p q w : Int) (p0 : 1 ≤ p) (p1 : p ≤ 46) (q0 : 1 ≤ q) (q1 : q ≤ 46) (hp : Dec p w) (hq : Dec q w) : p = q := by
  obtain ⟨a1, a2⟩ := dec_marks p w p0 p1 hp
  obtain ⟨b1, b2⟩ := dec_marks q w q0 q1 hq
  unfold likeB at a2 b2
  rw [decide_eq_true_eq] at a2 b2
  have hf : lo p = lo q := by omega
  obtain ⟨i, rfl⟩ := in_nat p p0 p1
  obtain ⟨j, rfl⟩ := in_nat q q0 q1
  have hu := uni_chk i j
  have hv := uni_chk j i
  unfold uniB at hu hv
  rw [decide_eq_true_eq] at hu hv
  have key : (i.val + 1 : Nat) = j.val + 1 := by
    rcases a2 with h | h | h
    · exact hu hf (.inl h)
    · exact hu hf (.inr (.inl h))
    · rcases b2 with g | g | g
      · exact (hv hf.symm (.inl g)).symm
      · exact (hv hf.symm (.inr (.inl g))).symm
      · exact hu hf (.inr (.inr ⟨by omega, fun c d => (h.2 c).symm.trans (g.2 d)⟩))
  rw [key]

/-! ### the program's search -/
abbrev Ans := Int × Int × Int × Int × Int × Bool
def Hit (op w : Int) : Ans := (op, gRd op w, gR1 op w, gR2 op w, gIm op w, true)
def Miss : Ans := (0, 0, 0, 0, 0, false)

theorem dec_try (k : Nat) (op w : Int) (h0 : 1 ≤ op) (h1 : op ≤ 46) (hw0 : 0 ≤ w) (hw1 : w < 4294967296) (nx : Option Ans) :
    ((inst_like.f (k + 12) op w).bind fun t201 => (if t201 = true then ((inst_made.f (k + 12) op w).bind fun bt202 => ((inst_word.f (k + 12) bt202.1 bt202.2.1 bt202.2.2.1 bt202.2.2.2.1 bt202.2.2.2.2).bind fun bt208 => (if bt208.2 = true then (if bt208.1 = w then (some (bt202.1, bt202.2.1, bt202.2.2.1, bt202.2.2.2.1, bt202.2.2.2.2, true)) else nx) else nx))) else nx))
    = if Dec op w then some (Hit op w) else nx := by
  rw [like_is (k + 10) op w h0 h1 hw0 hw1, obind]
  by_cases c : Dec op w
  · rw [if_pos c, if_pos (dec_marks op w h0 h1 c).2, made_is (k + 3) op w h0 h1 hw0 hw1, obind]
    obtain ⟨x, e1, e2⟩ := word_in op (gRd op w) (gR1 op w) (gR2 op w) (gIm op w) h0 h1 k
    show ((inst_word.f (k + 12) op (gRd op w) (gR1 op w) (gR2 op w) (gIm op w)).bind _) = _
    rw [e1, obind, c.1, if_pos rfl, if_pos ((e2 c.1).trans c.2)]
    rfl
  · rw [if_neg c]
    by_cases d : likeB op w = true
    · rw [if_pos d, made_is (k + 3) op w h0 h1 hw0 hw1, obind]
      obtain ⟨x, e1, e2⟩ := word_in op (gRd op w) (gR1 op w) (gR2 op w) (gIm op w) h0 h1 k
      show ((inst_word.f (k + 12) op (gRd op w) (gR1 op w) (gR2 op w) (gIm op w)).bind _) = _
      rw [e1, obind]
      by_cases e : okV op (gRd op w) (gR1 op w) (gR2 op w) (gIm op w) = true
      · rw [if_pos e]
        by_cases f : x = w
        · exact absurd ⟨e, (e2 e).symm.trans f⟩ c
        · rw [if_neg f]
      · rw [if_neg e]
    · rw [if_neg d]

theorem dec_loop (w last : Int) (hw0 : 0 ≤ w) (hw1 : w < 4294967296) (hl : last ≤ 46) (d : Nat) : ∀ (k : Nat) (op : Int), 1 ≤ op → last + 1 - op ≤ d →
    ((∃ o, op ≤ o ∧ o ≤ last ∧ Dec o w ∧ inst_Decode.l0 (k + 12 + 2 * d + 2) w last op = some (Hit o w)) ∨ ((∀ o, op ≤ o → o ≤ last → ¬ Dec o w) ∧ inst_Decode.l0 (k + 12 + 2 * d + 2) w last op = some Miss)) := by
  induction d with
  | zero =>
    intro k op h1 hd
    refine .inr ⟨fun o h2 h3 => by omega, ?_⟩
    rw [show k + 12 + 2 * 0 + 2 = k + 12 + 1 + 1 from rfl]
    generalize k + 12 = K
    simp only [inst_Decode.l0, inst_Decode.j1]
    rw [if_pos (by omega), decide_eq_false (by omega), if_neg (by decide)]
    rfl
  | succ d ih =>
    intro k op h1 hd
    by_cases c : op ≤ last
    · have hn := ih k (op + 1) (by omega) (by omega)
      have hw : wrap64 (op + 1) = op + 1 := by unfold wrap64; omega
      have ht := dec_try (k + 2 * d + 2) op w h1 (by omega) hw0 hw1 (inst_Decode.l0 (k + 12 + 2 * d + 2) w last (op + 1))
      have step : inst_Decode.l0 (k + 12 + 2 * (d + 1) + 2) w last op = if Dec op w then some (Hit op w) else inst_Decode.l0 (k + 12 + 2 * d + 2) w last (op + 1) := by
        rw [← ht, show k + 12 + 2 * (d + 1) + 2 = k + 2 * d + 2 + 12 + 1 + 1 from by omega, show k + 12 + 2 * d + 2 = k + 2 * d + 2 + 12 from by omega]
        generalize k + 2 * d + 2 + 12 = K
        simp only [inst_Decode.l0, inst_Decode.j1]
        rw [if_pos (by omega), decide_eq_true c, if_pos rfl, hw]
      rw [step]
      by_cases e : Dec op w
      · exact .inl ⟨op, by omega, c, e, by rw [if_pos e]⟩
      · rw [if_neg e]
        rcases hn with ⟨o, o1, o2, o3, o4⟩ | ⟨n1, n2⟩
        · exact .inl ⟨o, by omega, o2, o3, o4⟩
        · refine .inr ⟨fun o h2 h3 => ?_, n2⟩
          by_cases f : o = op
          · subst f; exact e
          · exact n1 o (by omega) h3
    · refine .inr ⟨fun o h2 h3 => by omega, ?_⟩
      rw [show k + 12 + 2 * (d + 1) + 2 = k + 2 * d + 2 + 12 + 1 + 1 from by omega]
      generalize k + 2 * d + 2 + 12 = K
      simp only [inst_Decode.l0, inst_Decode.j1]
      rw [if_pos (by omega), decide_eq_false c, if_neg (by decide)]
      rfl

/-- The range of operations of each seven lowest bits. -/
def am (x : Int) : Int × Int := if x = 51 then (1, 18) else if x = 19 then (19, 27) else if x = 3 then (28, 32) else if x = 35 then (33, 35) else if x = 99 then (36, 41) else if x = 55 then (42, 42) else if x = 23 then (43, 43) else if x = 111 then (44, 44) else if x = 103 then (45, 45) else if x = 15 then (46, 46) else (0, 0)

theorem among_is (w : Int) (h0 : 0 ≤ w) (h1 : w < 4294967296) : inst_among.f w = some (am (w % 128)) := by
  unfold inst_among.f am
  rw [and127 w h0 h1]
  repeat' split
  all_goals rfl

theorem am_chk : ∀ n : Fin 46, (am (lo ((n.val + 1 : Nat) : Int))).1 ≤ ((n.val + 1 : Nat) : Int) ∧ ((n.val + 1 : Nat) : Int) ≤ (am (lo ((n.val + 1 : Nat) : Int))).2 := by decide +kernel
theorem am_rng : ∀ n : Fin 128, am (n.val : Int) = (0, 0) ∨ (1 ≤ (am (n.val : Int)).1 ∧ (am (n.val : Int)).2 ≤ 46) := by decide +kernel

theorem lo_not : ∀ n : Fin 46, lo ((n.val + 1 : Nat) : Int) ≠ 115 := by decide +kernel

/-- Decode: the one instruction whose word it is. -/
theorem decode_is (w : Int) (h0 : 0 ≤ w) (h1 : w < 4294967296) :
    (w = 115 ∧ inst_Decode.f 110 w = some (47, 0, 0, 0, 0, true)) ∨ (w = 1048691 ∧ inst_Decode.f 110 w = some (48, 0, 0, 0, 0, true)) ∨
    (w ≠ 115 ∧ w ≠ 1048691 ∧ ∃ o, 1 ≤ o ∧ o ≤ 46 ∧ Dec o w ∧ inst_Decode.f 110 w = some (Hit o w)) ∨ (w ≠ 115 ∧ w ≠ 1048691 ∧ (∀ o, 1 ≤ o → o ≤ 46 → ¬ Dec o w) ∧ inst_Decode.f 110 w = some Miss) := by
  unfold inst_Decode.f
  by_cases c1 : w = 115
  · exact .inl ⟨c1, by rw [if_pos c1]⟩
  by_cases c2 : w = 1048691
  · exact .inr (.inl ⟨c2, by rw [if_neg c1, if_pos c2]⟩)
  rw [if_neg c1, if_neg c2, among_is w h0 h1, obind]
  have hout : ∀ o, 1 ≤ o → o ≤ 46 → Dec o w → (am (w % 128)).1 ≤ o ∧ o ≤ (am (w % 128)).2 := by
    intro o o0 o1 hd
    have hm := (dec_marks o w o0 o1 hd).1
    obtain ⟨n, rfl⟩ := in_nat o o0 o1
    rw [hm]
    exact am_chk n
  obtain ⟨n, hn⟩ : ∃ n : Fin 128, w % 128 = (n.val : Int) := ⟨⟨(w % 128).toNat, by omega⟩, by simp; omega⟩
  have hr := am_rng n
  rw [← hn] at hr
  rcases hr with hr | ⟨hr0, hr1⟩
  · refine .inr (.inr (.inr ⟨c1, c2, fun o o0 o1 hd => ?_, ?_⟩))
    · have := hout o o0 o1 hd
      rw [hr] at this
      have t1 : o ≤ 0 := this.2
      omega
    · rw [hr]
      show inst_Decode.l0 110 w 0 0 = _
      rw [show 110 = 108 + 1 + 1 from rfl]
      generalize 108 = K
      simp only [inst_Decode.l0, inst_Decode.j1]
      rw [if_neg (by decide), if_neg (by decide)]
      rfl
  · rcases dec_loop w (am (w % 128)).2 h0 h1 hr1 46 4 (am (w % 128)).1 hr0 (by omega) with ⟨o, o1, o2, o3, o4⟩ | ⟨n1, n2⟩
    · exact .inr (.inr (.inl ⟨c1, c2, o, by omega, by omega, o3, o4⟩))
    · refine .inr (.inr (.inr ⟨c1, c2, fun o o0 o1 hd => ?_, n2⟩))
      have := hout o o0 o1 hd
      exact n1 o this.1 this.2 hd

theorem lives_is (k : Nat) (hk : 110 ≤ k) : pintlelaw03_lives.f k = some true := by
  refine at_rounds (g := fun k => pintlelaw03_lives.f k) (fun k => pintlelaw03_lives.mono k) hk ?_
  show pintlelaw03_lives.f 110 = some true
  unfold pintlelaw03_lives.f
  rw [encode_is 98 19 1 2 0 (-3)]
  have e1 : okI 19 1 2 0 (-3) = true := by decide +kernel
  have e2 : wdI 19 1 2 0 (-3) = 4291887251 := by decide +kernel
  rw [if_pos e1, e2, obind]
  have ed : Dec 19 4291887251 := by
    have i := okI_in 19 1 2 0 (-3) (by decide) (by decide)
    exact dec_of 19 1 2 0 (-3) 4291887251 (by decide) (by decide) (i.1 ▸ e1) (i.2 ▸ e2)
  rcases decode_is 4291887251 (by decide) (by decide) with h | h | ⟨_, _, o, o0, o1, od, h⟩ | ⟨_, _, h, _⟩
  · exact absurd h.1 (by decide)
  · exact absurd h.1 (by decide)
  · have := dec_one 19 o 4291887251 (by decide) (by decide) o0 o1 ed od
    subst this
    show ((inst_Decode.f 110 4291887251).bind _) = _
    rw [h, obind]
    decide +kernel
  · exact absurd ed (h 19 (by decide) (by decide))

end Go.Proofs.Ytmjiimajbaeicaa.Pure
