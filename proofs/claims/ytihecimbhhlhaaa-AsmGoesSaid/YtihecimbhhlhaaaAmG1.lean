/- AmB, AmC, AmD: texts put together. -/
import Derived.Test.YtihecimbhhlhaaaRlG1
import Derived.Test.YtihecimbhhlhaaaRsG3
import Derived.Test.YtihecimbhhlhaaaRsPintleref03Encode
import Derived.Test.YtihecimbhhlhaaaRsPintleref03Decode
section
namespace Go.Proofs.Ytihecimbhhlhaaa.Pure
set_option linter.unusedVariables false
open Go.RowKit Go.Proofs.Ytihecimbhhlhaaa.PRs Go.Proofs.YtihecimbhhlhaaaW.PrintWords Go.Proofs.YtihecimbhhlhaaaW.PrintLast Go.Proofs.YtihecimbhhlhaaaW.PrintMore ImmPlain
theorem encode_is (k : Nat) (op rd rs1 rs2 imm : Int) : iEn.f (k + 12) op rd rs1 rs2 imm = some (if okI op rd rs1 rs2 imm = true then (wdI op rd rs1 rs2 imm, true) else (0, false)) := by
  obtain ⟨x, h1, h2⟩ := word_is k op rd rs1 rs2 imm
  unfold iEn.f
  rw [h1, obind]
  by_cases c : okI op rd rs1 rs2 imm = true
  · rw [if_pos c, if_pos c, h2 c]
  · rw [if_neg c, if_neg c]
def gRd (op w : Int) : Int := if hd op = true then w / 128 % 32 else 0
def gR1 (op w : Int) : Int := if ha op = true then w / 32768 % 32 else 0
def gR2 (op w : Int) : Int := if hb op = true then w / 1048576 % 32 else 0
def gIm (op w : Int) : Int := if hs op = true then w / 1048576 % 32 else getN (fm op) w
def likeB (op w : Int) : Bool := decide (fm op = 4 ∨ fm op = 5 ∨ (w / 4096 % 8 = th op ∧ (fm op = 0 → w / 33554432 = sv op)))
def Dec (op w : Int) : Prop := okV op (gRd op w) (gR1 op w) (gR2 op w) (gIm op w) = true ∧ wdV op (gRd op w) (gR1 op w) (gR2 op w) (gIm op w) = w
instance (op w : Int) : Decidable (Dec op w) := by unfold Dec; infer_instance
theorem immW_lies (op imm : Int) (h0 : 1 ≤ op) (h1 : op ≤ 46) (hok : immOk op imm = true) :
    (fm op = 0 ∧ hs op = false ∧ immW op imm = 0) ∨ (fm op = 0 ∧ hs op = true ∧ ∃ A, 0 ≤ A ∧ A < 32 ∧ immW op imm = A * 1048576) ∨ (fm op = 1 ∧ ∃ A, 0 ≤ A ∧ A < 4096 ∧ immW op imm = A * 1048576) ∨
    ((fm op = 2 ∨ fm op = 3) ∧ ∃ A B, 0 ≤ A ∧ A < 128 ∧ 0 ≤ B ∧ B < 32 ∧ immW op imm = A * 33554432 + B * 128) ∨ ((fm op = 4 ∨ fm op = 5) ∧ ∃ A, 0 ≤ A ∧ A < 1048576 ∧ immW op imm = A * 4096) := by
  obtain ⟨_, hc⟩ := cls op h0 h1
  obtain ⟨⟨A1, a10, a11, e1⟩, ⟨A2, B2, a20, a21, b20, b21, e2⟩, ⟨A3, B3, a30, a31, b30, b31, e3⟩, ⟨A4, a40, a41, e4⟩, ⟨A5, a50, a51, e5⟩⟩ := p_lies (imm % 4294967296)
  unfold immOk at hok
  unfold immW
  generalize fm op = f at *
  generalize hd op = d at *
  generalize ha op = a at *
  generalize hb op = b at *
  generalize hs op = x at *
  rcases hc with ⟨rfl, rfl, rfl, rfl, rfl⟩ | ⟨rfl, rfl, rfl, rfl, rfl⟩ | ⟨rfl, rfl, rfl, rfl, rfl, _⟩ | ⟨rfl, rfl, rfl, rfl, rfl, _⟩ | ⟨rfl, rfl, rfl, rfl, rfl, _⟩ | ⟨rfl, rfl, rfl, rfl, rfl, _, _⟩ | ⟨rfl, rfl, rfl, rfl, rfl, _, _⟩ | ⟨rfl, rfl, rfl, rfl, rfl, _, _⟩
  · exact .inl ⟨rfl, rfl, by rw [if_neg (by decide), if_pos rfl]⟩
  · rw [if_pos rfl] at hok
    have r5 := of_decide_eq_true hok
    exact .inr (.inl ⟨rfl, rfl, imm, r5.1, r5.2, by rw [if_pos rfl]⟩)
  · exact .inr (.inr (.inl ⟨rfl, A1, a10, a11, by rw [if_neg (by decide), if_neg (by decide), putN_1, e1]⟩))
  · exact .inr (.inr (.inr (.inl ⟨.inl rfl, A2, B2, a20, a21, b20, b21, by rw [if_neg (by decide), if_neg (by decide), putN_2, e2]⟩)))
  · exact .inr (.inr (.inr (.inl ⟨.inr rfl, A3, B3, a30, a31, b30, b31, by rw [if_neg (by decide), if_neg (by decide), putN_3, e3]⟩)))
  · exact .inr (.inr (.inr (.inr ⟨.inl rfl, A4, a40, a41, by rw [if_neg (by decide), if_neg (by decide), putN_4, e4]⟩)))
  · exact .inr (.inr (.inr (.inr ⟨.inr rfl, A5, a50, a51, by rw [if_neg (by decide), if_neg (by decide), putN_5, e5]⟩)))
  · exact .inr (.inr (.inl ⟨rfl, A1, a10, a11, by rw [if_neg (by decide), if_neg (by decide), putN_1, e1]⟩))
theorem marks (op rd rs1 rs2 imm w : Int) (h0 : 1 ≤ op) (h1 : op ≤ 46) (hok : okV op rd rs1 rs2 imm = true) (hw : wdV op rd rs1 rs2 imm = w) : w % 128 = lo op ∧ likeB op w = true ∧ 0 ≤ w ∧ w < 4294967296 := by
  obtain ⟨r1, r2, r3, r4⟩ := regs_of op rd rs1 rs2 imm hok
  obtain ⟨⟨b1, b2, b3, b4, b5, b6⟩, hc⟩ := cls op h0 h1
  have hl := immW_lies op imm h0 h1 r4
  unfold wdV at hw
  unfold likeB
  rw [decide_eq_true_eq]
  generalize immW op imm = I at *
  generalize lo op = l at *
  generalize th op = t at *
  generalize sv op = s at *
  generalize fm op = f at *
  generalize hd op = d at *
  generalize ha op = a at *
  generalize hb op = b at *
  generalize hs op = x at *
  rcases hc with ⟨rfl, rfl, rfl, rfl, rfl⟩ | ⟨rfl, rfl, rfl, rfl, rfl⟩ | ⟨rfl, rfl, rfl, rfl, rfl, rfl⟩ | ⟨rfl, rfl, rfl, rfl, rfl, rfl⟩ | ⟨rfl, rfl, rfl, rfl, rfl, rfl⟩ | ⟨rfl, rfl, rfl, rfl, rfl, rfl, rfl⟩ | ⟨rfl, rfl, rfl, rfl, rfl, rfl, rfl⟩ | ⟨rfl, rfl, rfl, rfl, rfl, rfl, rfl⟩
  all_goals simp only [Bool.false_eq_true, false_and, or_false, true_and] at r1 r2 r3
  · have hI : I = 0 := by
      rcases hl with ⟨_, _, h⟩ | ⟨_, h, _⟩ | ⟨h, _⟩ | ⟨h, _⟩ | ⟨h, _⟩
      · exact h
      · cases h
      · exact absurd h (by decide)
      · exact absurd h (by decide)
      · exact absurd h (by decide)
    exact ⟨by omega, .inr (.inr ⟨by omega, fun _ => by omega⟩), by omega, by omega⟩
  · obtain ⟨A, hA0, hA1, hI⟩ : ∃ A, 0 ≤ A ∧ A < 32 ∧ I = A * 1048576 := by
      rcases hl with ⟨_, h, _⟩ | ⟨_, _, h⟩ | ⟨h, _⟩ | ⟨h, _⟩ | ⟨h, _⟩
      · cases h
      · exact h
      · exact absurd h (by decide)
      · exact absurd h (by decide)
      · exact absurd h (by decide)
    exact ⟨by omega, .inr (.inr ⟨by omega, fun _ => by omega⟩), by omega, by omega⟩
  · obtain ⟨A, hA0, hA1, hI⟩ : ∃ A, 0 ≤ A ∧ A < 4096 ∧ I = A * 1048576 := by
      rcases hl with ⟨h, _⟩ | ⟨h, _⟩ | ⟨_, h⟩ | ⟨h, _⟩ | ⟨h, _⟩
      · exact absurd h (by decide)
      · exact absurd h (by decide)
      · exact h
      · exact absurd h (by decide)
      · exact absurd h (by decide)
    exact ⟨by omega, .inr (.inr ⟨by omega, fun h => absurd h (by decide)⟩), by omega, by omega⟩
  · obtain ⟨A, B, hA0, hA1, hB0, hB1, hI⟩ : ∃ A B, 0 ≤ A ∧ A < 128 ∧ 0 ≤ B ∧ B < 32 ∧ I = A * 33554432 + B * 128 := by
      rcases hl with ⟨h, _⟩ | ⟨h, _⟩ | ⟨h, _⟩ | ⟨_, h⟩ | ⟨h, _⟩
      · exact absurd h (by decide)
      · exact absurd h (by decide)
      · exact absurd h (by decide)
      · exact h
      · exact absurd h (by decide)
    exact ⟨by omega, .inr (.inr ⟨by omega, fun h => absurd h (by decide)⟩), by omega, by omega⟩
  · obtain ⟨A, B, hA0, hA1, hB0, hB1, hI⟩ : ∃ A B, 0 ≤ A ∧ A < 128 ∧ 0 ≤ B ∧ B < 32 ∧ I = A * 33554432 + B * 128 := by
      rcases hl with ⟨h, _⟩ | ⟨h, _⟩ | ⟨h, _⟩ | ⟨_, h⟩ | ⟨h, _⟩
      · exact absurd h (by decide)
      · exact absurd h (by decide)
      · exact absurd h (by decide)
      · exact h
      · exact absurd h (by decide)
    exact ⟨by omega, .inr (.inr ⟨by omega, fun h => absurd h (by decide)⟩), by omega, by omega⟩
  · obtain ⟨A, hA0, hA1, hI⟩ : ∃ A, 0 ≤ A ∧ A < 1048576 ∧ I = A * 4096 := by
      rcases hl with ⟨h, _⟩ | ⟨h, _⟩ | ⟨h, _⟩ | ⟨h, _⟩ | ⟨_, h⟩
      · exact absurd h (by decide)
      · exact absurd h (by decide)
      · exact absurd h (by decide)
      · exact absurd h (by decide)
      · exact h
    exact ⟨by omega, .inl rfl, by omega, by omega⟩
  · obtain ⟨A, hA0, hA1, hI⟩ : ∃ A, 0 ≤ A ∧ A < 1048576 ∧ I = A * 4096 := by
      rcases hl with ⟨h, _⟩ | ⟨h, _⟩ | ⟨h, _⟩ | ⟨h, _⟩ | ⟨_, h⟩
      · exact absurd h (by decide)
      · exact absurd h (by decide)
      · exact absurd h (by decide)
      · exact absurd h (by decide)
      · exact h
    exact ⟨by omega, .inr (.inl rfl), by omega, by omega⟩
  · obtain ⟨A, hA0, hA1, hI⟩ : ∃ A, 0 ≤ A ∧ A < 4096 ∧ I = A * 1048576 := by
      rcases hl with ⟨h, _⟩ | ⟨h, _⟩ | ⟨_, h⟩ | ⟨h, _⟩ | ⟨h, _⟩
      · exact absurd h (by decide)
      · exact absurd h (by decide)
      · exact h
      · exact absurd h (by decide)
      · exact absurd h (by decide)
    exact ⟨by omega, .inr (.inr ⟨by omega, fun h => absurd h (by decide)⟩), by omega, by omega⟩
theorem comes_back (op rd rs1 rs2 imm w : Int) (h0 : 1 ≤ op) (h1 : op ≤ 46) (hok : okV op rd rs1 rs2 imm = true) (hw : wdV op rd rs1 rs2 imm = w) : gRd op w = rd ∧ gR1 op w = rs1 ∧ gR2 op w = rs2 ∧ gIm op w = imm := by
  obtain ⟨r1, r2, r3, r4⟩ := regs_of op rd rs1 rs2 imm hok
  obtain ⟨⟨b1, b2, b3, b4, b5, b6⟩, hc⟩ := cls op h0 h1
  have put : ∀ f : Int, (putR f imm).2 = true → 1 ≤ f ∧ f ≤ 5 ∧ getN f (putN f (imm % 4294967296)) = imm := by
    intro f hf
    unfold putR at hf
    by_cases c : 1 ≤ f ∧ f ≤ 5 ∧ getN f (putN f (imm % 4294967296)) = imm
    · exact c
    · rw [if_neg c] at hf; cases hf
  obtain ⟨⟨A1, a10, a11, e1⟩, ⟨A2, B2, a20, a21, b20, b21, e2⟩, ⟨A3, B3, a30, a31, b30, b31, e3⟩, ⟨A4, a40, a41, e4⟩, ⟨A5, a50, a51, e5⟩⟩ := p_lies (imm % 4294967296)
  unfold wdV immW at hw
  unfold immOk at r4
  unfold gRd gR1 gR2 gIm
  generalize lo op = l at *
  generalize th op = t at *
  generalize sv op = s at *
  generalize fm op = f at *
  generalize hd op = d at *
  generalize ha op = a at *
  generalize hb op = b at *
  generalize hs op = x at *
  rcases hc with ⟨rfl, rfl, rfl, rfl, rfl⟩ | ⟨rfl, rfl, rfl, rfl, rfl⟩ | ⟨rfl, rfl, rfl, rfl, rfl, rfl⟩ | ⟨rfl, rfl, rfl, rfl, rfl, rfl⟩ | ⟨rfl, rfl, rfl, rfl, rfl, rfl⟩ | ⟨rfl, rfl, rfl, rfl, rfl, rfl, rfl⟩ | ⟨rfl, rfl, rfl, rfl, rfl, rfl, rfl⟩ | ⟨rfl, rfl, rfl, rfl, rfl, rfl, rfl⟩
  all_goals simp only [Bool.false_eq_true, false_and, or_false, true_and, if_true, if_false] at r1 r2 r3 r4 hw ⊢
  · have r5 := of_decide_eq_true r4
    refine ⟨by omega, by omega, by omega, ?_⟩
    rw [getN_none 0 w (by omega)]; exact r5.symm
  · have r5 := of_decide_eq_true r4
    exact ⟨by omega, by omega, by omega, by omega⟩
  · obtain ⟨_, _, g⟩ := put 1 r4
    rw [if_neg (by decide), putN_1] at hw
    rw [putN_1, getN_1, e1] at g
    rw [e1] at hw
    refine ⟨by omega, by omega, by omega, ?_⟩
    rw [getN_1, ← g]
    unfold g1
    rw [show w / 1048576 % 4096 = A1 by omega, show A1 * 1048576 / 1048576 % 4096 = A1 by omega]
  · obtain ⟨_, _, g⟩ := put 2 r4
    rw [if_neg (by decide), putN_2] at hw
    rw [putN_2, getN_2, e2] at g
    rw [e2] at hw
    refine ⟨by omega, by omega, by omega, ?_⟩
    rw [getN_2, ← g]
    unfold g2
    rw [show w / 33554432 % 128 = A2 by omega, show w / 128 % 32 = B2 by omega, show (A2 * 33554432 + B2 * 128) / 33554432 % 128 = A2 by omega, show (A2 * 33554432 + B2 * 128) / 128 % 32 = B2 by omega]
  · obtain ⟨_, _, g⟩ := put 3 r4
    rw [if_neg (by decide), putN_3] at hw
    rw [putN_3, getN_3, e3] at g
    rw [e3] at hw
    refine ⟨by omega, by omega, by omega, ?_⟩
    rw [getN_3, ← g, g3_is, g3_is]
    have q1 : w / 33554432 % 128 = A3 := by omega
    have q2 : w / 128 % 32 = B3 := by omega
    have u1 : w / 2147483648 = w / 33554432 / 64 := by omega
    have u2 : w / 256 = w / 128 / 2 := by omega
    have v1 : (A3 * 33554432 + B3 * 128) / 33554432 = A3 := by omega
    have v2 : (A3 * 33554432 + B3 * 128) / 128 % 32 = B3 := by omega
    have v3 : (A3 * 33554432 + B3 * 128) / 2147483648 = (A3 * 33554432 + B3 * 128) / 33554432 / 64 := by omega
    have v4 : (A3 * 33554432 + B3 * 128) / 256 = (A3 * 33554432 + B3 * 128) / 128 / 2 := by omega
    rw [u1, u2, v3, v4, v1]
    omega
  · obtain ⟨_, _, g⟩ := put 4 r4
    rw [if_neg (by decide), putN_4] at hw
    rw [putN_4, getN_4, e4] at g
    rw [e4] at hw
    refine ⟨by omega, by omega, by omega, ?_⟩
    rw [getN_4, ← g]
    unfold g4
    rw [show w / 4096 % 1048576 = A4 by omega, show A4 * 4096 / 4096 % 1048576 = A4 by omega]
  · obtain ⟨_, _, g⟩ := put 5 r4
    rw [if_neg (by decide), putN_5] at hw
    rw [putN_5, getN_5, e5] at g
    rw [e5] at hw
    refine ⟨by omega, by omega, by omega, ?_⟩
    rw [getN_5, ← g, g5_is, g5_is]
    have q1 : w / 4096 = A5 := by omega
    have u1 : w / 2147483648 = w / 4096 / 524288 := by omega
    have u2 : w / 1048576 = w / 4096 / 256 := by omega
    have u3 : w / 2097152 = w / 4096 / 512 := by omega
    have v1 : A5 * 4096 / 4096 = A5 := by omega
    have v2 : A5 * 4096 / 2147483648 = A5 * 4096 / 4096 / 524288 := by omega
    have v3 : A5 * 4096 / 1048576 = A5 * 4096 / 4096 / 256 := by omega
    have v4 : A5 * 4096 / 2097152 = A5 * 4096 / 4096 / 512 := by omega
    rw [u1, u2, u3, v2, v3, v4, v1, q1]
  · obtain ⟨_, _, g⟩ := put 1 r4
    rw [if_neg (by decide), putN_1] at hw
    rw [putN_1, getN_1, e1] at g
    rw [e1] at hw
    refine ⟨by omega, by omega, by omega, ?_⟩
    rw [getN_1, ← g]
    unfold g1
    rw [show w / 1048576 % 4096 = A1 by omega, show A1 * 1048576 / 1048576 % 4096 = A1 by omega]
theorem dec_of (op rd rs1 rs2 imm w : Int) (h0 : 1 ≤ op) (h1 : op ≤ 46) (hok : okV op rd rs1 rs2 imm = true) (hw : wdV op rd rs1 rs2 imm = w) : Dec op w := by
  obtain ⟨e1, e2, e3, e4⟩ := comes_back op rd rs1 rs2 imm w h0 h1 hok hw
  unfold Dec
  rw [e1, e2, e3, e4]
  exact ⟨hok, hw⟩
theorem dec_marks (op w : Int) (h0 : 1 ≤ op) (h1 : op ≤ 46) (h : Dec op w) : w % 128 = lo op ∧ likeB op w = true := by
  have := marks op _ _ _ _ w h0 h1 h.1 h.2
  exact ⟨this.1, this.2.1⟩
def uniB (p q : Nat) : Bool := decide (lo p = lo q → (fm p = 4 ∨ fm p = 5 ∨ (th p = th q ∧ (fm p = 0 → fm q = 0 → sv p = sv q))) → p = q)
theorem uni_chk : ∀ p : Fin 46, ∀ q : Fin 46, uniB (p.val + 1) (q.val + 1) = true := by decide +kernel
theorem dec_one (p q w : Int) (p0 : 1 ≤ p) (p1 : p ≤ 46) (q0 : 1 ≤ q) (q1 : q ≤ 46) (hp : Dec p w) (hq : Dec q w) : p = q := by
  obtain ⟨a1, a2⟩ := dec_marks p w p0 p1 hp
  obtain ⟨b1, b2⟩ := dec_marks q w q0 q1 hq
  unfold likeB at a2 b2
  rw [decide_eq_true_eq] at a2 b2
  have hf : lo p = lo q := by omega
  obtain ⟨i, rfl⟩ := in_nat p p0 p1
  obtain ⟨j, rfl⟩ := in_nat q q0 q1
  have hu := uni_chk i j
  have hv := uni_chk j i
  unfold uniB at hu hv
  rw [decide_eq_true_eq] at hu hv
  have key : (i.val + 1 : Nat) = j.val + 1 := by
    rcases a2 with h | h | h
    · exact hu hf (.inl h)
    · exact hu hf (.inr (.inl h))
    · rcases b2 with g | g | g
      · exact (hv hf.symm (.inl g)).symm
      · exact (hv hf.symm (.inr (.inl g))).symm
      · exact hu hf (.inr (.inr ⟨by omega, fun c d => (h.2 c).symm.trans (g.2 d)⟩))
  rw [key]
abbrev Ans := Int × Int × Int × Int × Int × Bool
def Hit (op w : Int) : Ans := (op, gRd op w, gR1 op w, gR2 op w, gIm op w, true)
def Miss : Ans := (0, 0, 0, 0, 0, false)
end Go.Proofs.Ytihecimbhhlhaaa.Pure
end
section
namespace Go.Proofs.Ytihecimbhhlhaaa.Pure
set_option linter.unusedVariables false
open Go.RowKit Go.Proofs.Ytihecimbhhlhaaa.PRs Go.Proofs.YtihecimbhhlhaaaW.PrintWords Go.Proofs.YtihecimbhhlhaaaW.PrintLast Go.Proofs.YtihecimbhhlhaaaW.PrintMore ImmPlain
theorem wrap_u64 (b : Nat) (hb : b ≤ 31) : IntKind.u64.wrap (b : Int) = b := by
  have e : IntKind.u64.wrap (b : Int) = (b : Int) % 18446744073709551616 := by simp [IntKind.wrap, IntKind.bits, IntKind.signed]
  rw [e]; omega
theorem bit_is (w : Int) (b : Nat) (hb : b ≤ 31) (hw0 : 0 ≤ w) : Int.tmod (shr .u32 w (IntKind.u64.wrap (b : Int))) 2 = w / 2 ^ b % 2 := by
  rw [wrap_u64 b hb, shrC w b (by omega)]
  exact Int.tmod_eq_emod_of_nonneg (Int.ediv_nonneg hw0 (Int.le_of_lt (Int.pow_pos (by decide))))
theorem rget_first (k : Nat) (w : Int) (l : List Int) (hl : 0 < l.length) (b : Nat) (hb : b ≤ 31) (hp : l.getD 0 0 = b) (hw0 : 0 ≤ w) :
    d2G.l0 (k + 1) w l 0 0 = d2G.l0 k w l (-(w / 2 ^ b % 2)) ((1 : Nat) : Int) := by
  have e1 : rd l 0 = b := hp
  simp only [d2G.l0, e1]
  rw [if_pos (by omega), if_pos (by decide), if_pos (by omega), if_pos (by rw [wrap_u64 b hb]; omega)]
  rw [bit_is w b hb hw0]
  have hx : 0 ≤ w / 2 ^ b % 2 ∧ w / 2 ^ b % 2 ≤ 1 := by omega
  generalize w / 2 ^ b % 2 = x at hx
  have e3 : wrap64 (wrap64 (2 * 0) + wrap64 (-wrap64 x)) = -x := by unfold wrap64; omega
  have e4 : wrap64 (0 + 1) = ((1 : Nat) : Int) := by unfold wrap64; omega
  simp only [if_true]
  rw [e3, e4]
theorem rget_bit (k : Nat) (w n : Int) (l : List Int) (i : Nat) (hi : i < l.length) (h0 : 0 < i) (hl : l.length ≤ 32) (b : Nat) (hb : b ≤ 31) (hp : l.getD i 0 = b) (hw0 : 0 ≤ w) (hn0 : -1125899906842624 ≤ n) (hn1 : n ≤ 1125899906842624) :
    d2G.l0 (k + 1) w l n i = d2G.l0 k w l (2 * n + w / 2 ^ b % 2) ((i + 1 : Nat) : Int) := by
  have e1 : rd l i = b := by simpa [rd] using hp
  simp only [d2G.l0, e1]
  rw [if_pos (by omega), if_pos (by omega), if_pos (by omega), if_pos (by rw [wrap_u64 b hb]; omega)]
  rw [bit_is w b hb hw0]
  have hx : 0 ≤ w / 2 ^ b % 2 ∧ w / 2 ^ b % 2 ≤ 1 := by omega
  generalize w / 2 ^ b % 2 = x at hx
  have e3 : wrap64 (wrap64 (2 * n) + wrap64 x) = 2 * n + x := by unfold wrap64; omega
  have e4 : wrap64 ((i : Int) + 1) = ((i + 1 : Nat) : Int) := by unfold wrap64; omega
  rw [if_neg (by omega), e3, e4]
theorem rget_none (k : Nat) (w n : Int) (l : List Int) (i : Nat) (hi : i < l.length) (h0 : 0 < i) (hl : l.length ≤ 32) (hp : l.getD i 0 = -1) (hn0 : -1125899906842624 ≤ n) (hn1 : n ≤ 1125899906842624) :
    d2G.l0 (k + 1) w l n i = d2G.l0 k w l (2 * n) ((i + 1 : Nat) : Int) := by
  have e1 : rd l i = -1 := by simpa [rd] using hp
  simp only [d2G.l0, e1]
  rw [if_pos (by omega), if_pos (by omega), if_neg (by omega)]
  have e3 : wrap64 (wrap64 (2 * n) + 0) = 2 * n := by unfold wrap64; omega
  have e4 : wrap64 ((i : Int) + 1) = ((i + 1 : Nat) : Int) := by unfold wrap64; omega
  rw [if_neg (by omega), e3, e4]
theorem rget_end (k : Nat) (w n : Int) (l : List Int) (hn0 : -2147483648 ≤ n) (hn1 : n ≤ 2147483647) :
    d2G.l0 (k + 1) w l n (l.length : Nat) = some n := by
  simp only [d2G.l0]
  rw [if_neg (by omega)]
  have e3 : wrap32 n = n := by unfold wrap32; omega
  rw [e3]
theorem two_pow_le (B : Nat) (h : B ≤ 50) : (2 : Int) ^ B ≤ 1125899906842624 := by
  have := Int.ofNat_le.mpr (Nat.pow_le_pow_right (n := 2) (by decide) h)
  rw [Int.natCast_pow, Int.natCast_pow] at this
  exact this
theorem mod_split (w : Int) (lo m : Nat) (hw0 : 0 ≤ w) : w / 2 ^ lo % 2 ^ (m + 1) = w / 2 ^ (lo + m) % 2 * 2 ^ m + w / 2 ^ lo % 2 ^ m := by
  obtain ⟨a, rfl⟩ := Int.eq_ofNat_of_zero_le hw0
  have h := Nat.mod_pow_succ (b := 2) (k := m) (x := a / 2 ^ lo)
  rw [Nat.div_div_eq_div_mul, ← Nat.pow_add] at h
  have h2 := congrArg (fun n : Nat => (n : Int)) h
  simp only [Int.natCast_add, Int.natCast_mul, Int.natCast_emod, Int.natCast_ediv, Int.natCast_pow] at h2
  rw [show ((2 : Nat) : Int) = 2 from rfl] at h2
  rw [h2, Int.mul_comm]
  exact Int.add_comm _ _
/-- A run of bits, one below the other. -/
theorem rget_run (w : Int) (hw0 : 0 ≤ w) (l : List Int) (hl : l.length ≤ 32) (m : Nat) : ∀ (k lo i B : Nat) (n : Int), 0 < i → i + m ≤ l.length → lo + m ≤ 32 → (∀ j, j < m → l.getD (i + j) 0 = ((lo + (m - 1 - j) : Nat) : Int)) → -(2 ^ B) ≤ n → n < 2 ^ B → B + m ≤ 50 →
    d2G.l0 (k + m) w l n i = d2G.l0 k w l (n * 2 ^ m + w / 2 ^ lo % 2 ^ m) ((i + m : Nat) : Int) := by
  induction m with
  | zero =>
    intro k lo i B n _ _ _ _ _ _ _
    have : n * 2 ^ 0 + w / 2 ^ lo % 2 ^ 0 = n := by rw [Int.pow_zero, Int.emod_one]; omega
    rw [this]; rfl
  | succ m ih =>
    intro k lo i B n h0 hi hlo hp hn0 hn1 hB
    have hpB := two_pow_le B (by omega)
    have s := rget_bit (k + m) w n l i (by omega) h0 hl (lo + m) (by omega) (by have := hp 0 (by omega); simpa using this) hw0 (by omega) (by omega)
    have e2 : (2 : Int) ^ (B + 1) = 2 ^ B * 2 := Int.pow_succ _ _
    have hx : 0 ≤ w / 2 ^ (lo + m) % 2 ∧ w / 2 ^ (lo + m) % 2 ≤ 1 := by omega
    have r := ih k lo (i + 1) (B + 1) (2 * n + w / 2 ^ (lo + m) % 2) (by omega) (by omega) (by omega) (fun j hj => by
      have := hp (j + 1) (by omega)
      rw [show i + 1 + j = i + (j + 1) from by omega, this]
      congr 1; omega) (by rw [e2]; omega) (by rw [e2]; omega) (by omega)
    rw [show k + (m + 1) = k + m + 1 from rfl, s, r, mod_split w lo m hw0]
    rw [show i + 1 + m = i + (m + 1) from by omega]
    congr 1
    rw [Int.pow_succ, Int.add_mul, Int.mul_comm 2 n, Int.mul_assoc n 2, Int.mul_comm 2 (2 ^ m)]
    omega
/-- So many noughts. -/
theorem rget_noughts (w : Int) (l : List Int) (hl : l.length ≤ 32) (m : Nat) : ∀ (k i B : Nat) (n : Int), 0 < i → i + m ≤ l.length → (∀ j, j < m → l.getD (i + j) 0 = -1) → -(2 ^ B) ≤ n → n < 2 ^ B → B + m ≤ 50 →
    d2G.l0 (k + m) w l n i = d2G.l0 k w l (n * 2 ^ m) ((i + m : Nat) : Int) := by
  induction m with
  | zero =>
    intro k i B n _ _ _ _ _ _
    rw [Int.pow_zero, Int.mul_one]; rfl
  | succ m ih =>
    intro k i B n h0 hi hp hn0 hn1 hB
    have hpB := two_pow_le B (by omega)
    have s := rget_none (k + m) w n l i (by omega) h0 hl (by have := hp 0 (by omega); simpa using this) (by omega) (by omega)
    have e2 : (2 : Int) ^ (B + 1) = 2 ^ B * 2 := Int.pow_succ _ _
    have r := ih k (i + 1) (B + 1) (2 * n) (by omega) (by omega) (fun j hj => by
      have := hp (j + 1) (by omega)
      rw [show i + 1 + j = i + (j + 1) from by omega, this]) (by rw [e2]; omega) (by rw [e2]; omega) (by omega)
    rw [show k + (m + 1) = k + m + 1 from rfl, s, r]
    rw [show i + 1 + m = i + (m + 1) from by omega, Int.pow_succ, Int.mul_comm 2 n, Int.mul_assoc, Int.mul_comm 2]
theorem rget_firstL (k : Nat) (w : Int) (l : List Int) (hl : 0 < l.length) (b : Nat) (hb : b ≤ 31) (hp : l.getD 0 0 = b) (F : Int) (eF : (2 : Int) ^ b = F) (hw0 : 0 ≤ w) :
    d2G.l0 (k + 1) w l 0 0 = d2G.l0 k w l (-(w / F % 2)) ((1 : Nat) : Int) := by
  subst eF; exact rget_first k w l hl b hb hp hw0
theorem rget_runL (w : Int) (hw0 : 0 ≤ w) (l : List Int) (hl : l.length ≤ 32) (m : Nat) (k lo i B : Nat) (n F M : Int) (eF : (2 : Int) ^ lo = F) (eM : (2 : Int) ^ m = M) (h0 : 0 < i) (hi : i + m ≤ l.length) (hlo : lo + m ≤ 32) (hp : ∀ j, j < m → l.getD (i + j) 0 = ((lo + (m - 1 - j) : Nat) : Int)) (hn0 : -(2 ^ B) ≤ n) (hn1 : n < 2 ^ B) (hB : B + m ≤ 50) :
    d2G.l0 (k + m) w l n i = d2G.l0 k w l (n * M + w / F % M) ((i + m : Nat) : Int) := by
  subst eF eM; exact rget_run w hw0 l hl m k lo i B n h0 hi hlo hp hn0 hn1 hB
theorem rget_noughtsL (w : Int) (l : List Int) (hl : l.length ≤ 32) (m : Nat) (k i B : Nat) (n M : Int) (eM : (2 : Int) ^ m = M) (h0 : 0 < i) (hi : i + m ≤ l.length) (hp : ∀ j, j < m → l.getD (i + j) 0 = -1) (hn0 : -(2 ^ B) ≤ n) (hn1 : n < 2 ^ B) (hB : B + m ≤ 50) :
    d2G.l0 (k + m) w l n i = d2G.l0 k w l (n * M) ((i + m : Nat) : Int) := by
  subst eM; exact rget_noughts w l hl m k i B n h0 hi hp hn0 hn1 hB
theorem rget1 (k : Nat) (w : Int) (hw0 : 0 ≤ w) (hw1 : w < 4294967296) : d2G.f (k + 33) 1 w = some (getN 1 w) := by
  rw [getN_1]
  unfold d2G.f d2B.f
  rw [if_pos (show (1 : Int) = 1 from rfl)]
  rw [obind]
  refine Eq.trans (rget_firstL (k + 32) w [31, 30, 29, 28, 27, 26, 25, 24, 23, 22, 21, 20] (by decide) 31 (by decide) rfl 2147483648 rfl hw0) ?_
  refine Eq.trans (rget_runL w hw0 [31, 30, 29, 28, 27, 26, 25, 24, 23, 22, 21, 20] (by decide) 11 (k + 21) 20 1 0 _ 1048576 2048 rfl rfl (by decide) (by decide) (by decide) (by decide) (by omega) (by omega) (by decide)) ?_
  refine Eq.trans (rget_end (k + 20) w _ [31, 30, 29, 28, 27, 26, 25, 24, 23, 22, 21, 20] (by omega) (by omega)) ?_
  congr 1
  unfold g1
  have hs : w / 2147483648 = w / 33554432 / 64 := by omega
  (repeat' split) <;> omega
theorem rget2 (k : Nat) (w : Int) (hw0 : 0 ≤ w) (hw1 : w < 4294967296) : d2G.f (k + 33) 2 w = some (getN 2 w) := by
  rw [getN_2]
  unfold d2G.f d2B.f
  rw [if_neg (show ¬((2 : Int) = 1) by decide)]
  rw [if_pos (show (2 : Int) = 2 from rfl)]
  rw [obind]
  refine Eq.trans (rget_firstL (k + 32) w [31, 30, 29, 28, 27, 26, 25, 11, 10, 9, 8, 7] (by decide) 31 (by decide) rfl 2147483648 rfl hw0) ?_
  refine Eq.trans (rget_runL w hw0 [31, 30, 29, 28, 27, 26, 25, 11, 10, 9, 8, 7] (by decide) 6 (k + 26) 25 1 0 _ 33554432 64 rfl rfl (by decide) (by decide) (by decide) (by decide) (by omega) (by omega) (by decide)) ?_
  refine Eq.trans (rget_runL w hw0 [31, 30, 29, 28, 27, 26, 25, 11, 10, 9, 8, 7] (by decide) 5 (k + 21) 7 7 6 _ 128 32 rfl rfl (by decide) (by decide) (by decide) (by decide) (by omega) (by omega) (by decide)) ?_
  refine Eq.trans (rget_end (k + 20) w _ [31, 30, 29, 28, 27, 26, 25, 11, 10, 9, 8, 7] (by omega) (by omega)) ?_
  congr 1
  unfold g2
  have hs : w / 2147483648 = w / 33554432 / 64 := by omega
  (repeat' split) <;> omega
theorem rget3 (k : Nat) (w : Int) (hw0 : 0 ≤ w) (hw1 : w < 4294967296) : d2G.f (k + 33) 3 w = some (getN 3 w) := by
  rw [getN_3]
  unfold d2G.f d2B.f
  rw [if_neg (show ¬((3 : Int) = 1) by decide)]
  rw [if_neg (show ¬((3 : Int) = 2) by decide)]
  rw [if_pos (show (3 : Int) = 3 from rfl)]
  rw [obind]
  refine Eq.trans (rget_firstL (k + 32) w [31, 7, 30, 29, 28, 27, 26, 25, 11, 10, 9, 8, -1] (by decide) 31 (by decide) rfl 2147483648 rfl hw0) ?_
  refine Eq.trans (rget_runL w hw0 [31, 7, 30, 29, 28, 27, 26, 25, 11, 10, 9, 8, -1] (by decide) 1 (k + 31) 7 1 0 _ 128 2 rfl rfl (by decide) (by decide) (by decide) (by decide) (by omega) (by omega) (by decide)) ?_
  refine Eq.trans (rget_runL w hw0 [31, 7, 30, 29, 28, 27, 26, 25, 11, 10, 9, 8, -1] (by decide) 6 (k + 25) 25 2 1 _ 33554432 64 rfl rfl (by decide) (by decide) (by decide) (by decide) (by omega) (by omega) (by decide)) ?_
  refine Eq.trans (rget_runL w hw0 [31, 7, 30, 29, 28, 27, 26, 25, 11, 10, 9, 8, -1] (by decide) 4 (k + 21) 8 8 7 _ 256 16 rfl rfl (by decide) (by decide) (by decide) (by decide) (by omega) (by omega) (by decide)) ?_
  refine Eq.trans (rget_noughtsL w [31, 7, 30, 29, 28, 27, 26, 25, 11, 10, 9, 8, -1] (by decide) 1 (k + 20) 12 11 _ 2 rfl (by decide) (by decide) (by decide) (by omega) (by omega) (by decide)) ?_
  refine Eq.trans (rget_end (k + 19) w _ [31, 7, 30, 29, 28, 27, 26, 25, 11, 10, 9, 8, -1] (by omega) (by omega)) ?_
  congr 1
  unfold g3
  have hs : w / 2147483648 = w / 33554432 / 64 := by omega
  (repeat' split) <;> omega
theorem rget4 (k : Nat) (w : Int) (hw0 : 0 ≤ w) (hw1 : w < 4294967296) : d2G.f (k + 33) 4 w = some (getN 4 w) := by
  rw [getN_4]
  unfold d2G.f d2B.f
  rw [if_neg (show ¬((4 : Int) = 1) by decide)]
  rw [if_neg (show ¬((4 : Int) = 2) by decide)]
  rw [if_neg (show ¬((4 : Int) = 3) by decide)]
  rw [if_pos (show (4 : Int) = 4 from rfl)]
  rw [obind]
  refine Eq.trans (rget_firstL (k + 32) w [31, 30, 29, 28, 27, 26, 25, 24, 23, 22, 21, 20, 19, 18, 17, 16, 15, 14, 13, 12, -1, -1, -1, -1, -1, -1, -1, -1, -1, -1, -1, -1] (by decide) 31 (by decide) rfl 2147483648 rfl hw0) ?_
  refine Eq.trans (rget_runL w hw0 [31, 30, 29, 28, 27, 26, 25, 24, 23, 22, 21, 20, 19, 18, 17, 16, 15, 14, 13, 12, -1, -1, -1, -1, -1, -1, -1, -1, -1, -1, -1, -1] (by decide) 19 (k + 13) 12 1 0 _ 4096 524288 rfl rfl (by decide) (by decide) (by decide) (by decide) (by omega) (by omega) (by decide)) ?_
  refine Eq.trans (rget_noughtsL w [31, 30, 29, 28, 27, 26, 25, 24, 23, 22, 21, 20, 19, 18, 17, 16, 15, 14, 13, 12, -1, -1, -1, -1, -1, -1, -1, -1, -1, -1, -1, -1] (by decide) 12 (k + 1) 20 19 _ 4096 rfl (by decide) (by decide) (by decide) (by omega) (by omega) (by decide)) ?_
  refine Eq.trans (rget_end (k + 0) w _ [31, 30, 29, 28, 27, 26, 25, 24, 23, 22, 21, 20, 19, 18, 17, 16, 15, 14, 13, 12, -1, -1, -1, -1, -1, -1, -1, -1, -1, -1, -1, -1] (by omega) (by omega)) ?_
  congr 1
  unfold g4
  have hs : w / 2147483648 = w / 33554432 / 64 := by omega
  (repeat' split) <;> omega
theorem rget5 (k : Nat) (w : Int) (hw0 : 0 ≤ w) (hw1 : w < 4294967296) : d2G.f (k + 33) 5 w = some (getN 5 w) := by
  rw [getN_5]
  unfold d2G.f d2B.f
  rw [if_neg (show ¬((5 : Int) = 1) by decide)]
  rw [if_neg (show ¬((5 : Int) = 2) by decide)]
  rw [if_neg (show ¬((5 : Int) = 3) by decide)]
  rw [if_neg (show ¬((5 : Int) = 4) by decide)]
  rw [if_pos (show (5 : Int) = 5 from rfl)]
  rw [obind]
  refine Eq.trans (rget_firstL (k + 32) w [31, 19, 18, 17, 16, 15, 14, 13, 12, 20, 30, 29, 28, 27, 26, 25, 24, 23, 22, 21, -1] (by decide) 31 (by decide) rfl 2147483648 rfl hw0) ?_
  refine Eq.trans (rget_runL w hw0 [31, 19, 18, 17, 16, 15, 14, 13, 12, 20, 30, 29, 28, 27, 26, 25, 24, 23, 22, 21, -1] (by decide) 8 (k + 24) 12 1 0 _ 4096 256 rfl rfl (by decide) (by decide) (by decide) (by decide) (by omega) (by omega) (by decide)) ?_
  refine Eq.trans (rget_runL w hw0 [31, 19, 18, 17, 16, 15, 14, 13, 12, 20, 30, 29, 28, 27, 26, 25, 24, 23, 22, 21, -1] (by decide) 1 (k + 23) 20 9 8 _ 1048576 2 rfl rfl (by decide) (by decide) (by decide) (by decide) (by omega) (by omega) (by decide)) ?_
  refine Eq.trans (rget_runL w hw0 [31, 19, 18, 17, 16, 15, 14, 13, 12, 20, 30, 29, 28, 27, 26, 25, 24, 23, 22, 21, -1] (by decide) 10 (k + 13) 21 10 9 _ 2097152 1024 rfl rfl (by decide) (by decide) (by decide) (by decide) (by omega) (by omega) (by decide)) ?_
  refine Eq.trans (rget_noughtsL w [31, 19, 18, 17, 16, 15, 14, 13, 12, 20, 30, 29, 28, 27, 26, 25, 24, 23, 22, 21, -1] (by decide) 1 (k + 12) 20 19 _ 2 rfl (by decide) (by decide) (by decide) (by omega) (by omega) (by decide)) ?_
  refine Eq.trans (rget_end (k + 11) w _ [31, 19, 18, 17, 16, 15, 14, 13, 12, 20, 30, 29, 28, 27, 26, 25, 24, 23, 22, 21, -1] (by omega) (by omega)) ?_
  congr 1
  unfold g5
  have hs : w / 2147483648 = w / 33554432 / 64 := by omega
  (repeat' split) <;> omega
theorem bits_none (form : Int) (hf : form < 1 ∨ 5 < form) : d2B.f form = some [] := by
  unfold d2B.f
  rw [if_neg (by omega), if_neg (by omega), if_neg (by omega), if_neg (by omega), if_neg (by omega)]
theorem rget_is (k : Nat) (form w : Int) (hw0 : 0 ≤ w) (hw1 : w < 4294967296) : d2G.f (k + 33) form w = some (getN form w) := by
  by_cases h : form < 1 ∨ 5 < form
  · rw [getN_none form w h]
    unfold d2G.f
    rw [bits_none form h, obind]
    exact rget_end (k + 32) w 0 [] (by decide) (by decide)
  · have : form = 1 ∨ form = 2 ∨ form = 3 ∨ form = 4 ∨ form = 5 := by omega
    rcases this with rfl | rfl | rfl | rfl | rfl
    · exact rget1 k w hw0 hw1
    · exact rget2 k w hw0 hw1
    · exact rget3 k w hw0 hw1
    · exact rget4 k w hw0 hw1
    · exact rget5 k w hw0 hw1
theorem rput_end (k : Nat) (form n acc : Int) (l : List Int) (hl : l.length ≠ 0) (h0 : 0 ≤ acc) (h1 : acc < 4294967296) :
    d2P.l0 (k + 34) form n l acc (l.length : Nat) = some (if getN form acc = n then (acc, true) else (0, false)) := by
  have hg := rget_is k form acc h0 h1
  rw [show k + 34 = k + 33 + 1 from rfl]
  generalize k + 33 = K at hg
  simp only [d2P.l0]
  rw [if_neg (by omega), if_neg (by omega), hg, obind]
  split <;> rfl
theorem shl_one (b : Nat) (hb : b ≤ 31) : shl .u32 1 (IntKind.u64.wrap (b : Int)) = 2 ^ b := by
  rw [wrap_u64 b hb]
  unfold shl
  rw [Int.toNat_natCast, Nat.min_eq_left (by simp [IntKind.bits]; omega), IntKind.wrap_u32, Int.one_mul]
  have h2' : 2 ^ b ≤ 2 ^ 31 := Nat.pow_le_pow_right (by decide) (by omega)
  have h2 : (2 : Int) ^ b ≤ 2147483648 := by
    have := Int.ofNat_le.mpr h2'
    rw [Int.natCast_pow, Int.natCast_pow] at this
    exact this
  have h3 : (0 : Int) < 2 ^ b := Int.pow_pos (by decide)
  omega
theorem rput_bit (k : Nat) (form n acc : Int) (l : List Int) (i P : Nat) (hi : i + 1 + P = l.length) (hl : l.length ≤ 32) (b : Nat) (hb : b ≤ 31) (hp : l.getD i 0 = b) (h0 : 0 ≤ acc) (h1 : acc < 4294967296) :
    d2P.l0 (k + 1) form n l acc i = d2P.l0 k form n l ((acc + (n % 4294967296) / 2 ^ P % 2 * 2 ^ b) % 4294967296) ((i + 1 : Nat) : Int) := by
  have e1 : rd l i = b := by simpa [rd] using hp
  have e2 : wrap64 (wrap64 ((l.length : Int) - 1) - i) = (P : Int) := by unfold wrap64; omega
  have e4 : wrap64 ((i : Int) + 1) = ((i + 1 : Nat) : Int) := by unfold wrap64; omega
  simp only [d2P.l0, e1, e2, e4]
  rw [if_pos (by omega), if_pos (by omega), if_pos (by omega), if_pos (by rw [wrap_u64 P (by omega)]; omega), wrap_u64 P (by omega), shrC _ P (by omega), shl_one b hb]
  have hx : (n % 4294967296) / 2 ^ P % 2 = 0 ∨ (n % 4294967296) / 2 ^ P % 2 = 1 := by omega
  rcases hx with hx | hx
  · rw [hx, if_neg (by decide), Int.zero_mul, Int.add_zero, Int.emod_eq_of_lt h0 h1]
  · rw [hx, if_pos rfl, if_pos (by rw [wrap_u64 b hb]; omega), Int.one_mul]
theorem rput_none (k : Nat) (form n acc : Int) (l : List Int) (i : Nat) (hi : i < l.length) (hl : l.length ≤ 32) (hp : l.getD i 0 = -1) :
    d2P.l0 (k + 1) form n l acc i = d2P.l0 k form n l acc ((i + 1 : Nat) : Int) := by
  have e1 : rd l i = -1 := by simpa [rd] using hp
  have e4 : wrap64 ((i : Int) + 1) = ((i + 1 : Nat) : Int) := by unfold wrap64; omega
  simp only [d2P.l0, e1, e4]
  rw [if_pos (by omega), if_pos (by omega), if_neg (by decide)]
theorem rput_run (form n : Int) (l : List Int) (hl : l.length ≤ 32) (m : Nat) : ∀ (k lo i P : Nat) (acc : Int), i + m + P = l.length → lo + m ≤ 32 → (∀ j, j < m → l.getD (i + j) 0 = ((lo + (m - 1 - j) : Nat) : Int)) → 0 ≤ acc → acc < 4294967296 →
    d2P.l0 (k + m) form n l acc i = d2P.l0 k form n l ((acc + (n % 4294967296) / 2 ^ P % 2 ^ m * 2 ^ lo) % 4294967296) ((i + m : Nat) : Int) := by
  induction m with
  | zero =>
    intro k lo i P acc _ _ _ h0 h1
    rw [Int.pow_zero, Int.emod_one, Int.zero_mul, Int.add_zero, Int.emod_eq_of_lt h0 h1]; rfl
  | succ m ih =>
    intro k lo i P acc hi hlo hp h0 h1
    have s := rput_bit (k + m) form n acc l i (m + P) (by omega) hl (lo + m) (by omega) (by have := hp 0 (by omega); simpa using this) h0 h1
    have r := ih k lo (i + 1) P ((acc + (n % 4294967296) / 2 ^ (m + P) % 2 * 2 ^ (lo + m)) % 4294967296) (by omega) (by omega) (fun j hj => by
      have := hp (j + 1) (by omega)
      rw [show i + 1 + j = i + (j + 1) from by omega, this]
      congr 1; omega) (Int.emod_nonneg _ (by decide)) (Int.emod_lt_of_pos _ (by decide))
    rw [show k + (m + 1) = k + m + 1 from rfl, s, r, mod_split (n % 4294967296) P m (by omega), Nat.add_comm m P]
    rw [show i + 1 + m = i + (m + 1) from by omega]
    have e : (n % 4294967296) / 2 ^ (P + m) % 2 * 2 ^ (lo + m) = (n % 4294967296) / 2 ^ (P + m) % 2 * 2 ^ m * 2 ^ lo := by
      rw [show (2 : Int) ^ (lo + m) = 2 ^ m * 2 ^ lo from by rw [Int.pow_add, Int.mul_comm], Int.mul_assoc]
    rw [e, Int.add_mul, Int.emod_add_emod, Int.add_assoc]
theorem rput_noughts (form n acc : Int) (l : List Int) (hl : l.length ≤ 32) (m : Nat) : ∀ (k i : Nat), i + m ≤ l.length → (∀ j, j < m → l.getD (i + j) 0 = -1) →
    d2P.l0 (k + m) form n l acc i = d2P.l0 k form n l acc ((i + m : Nat) : Int) := by
  induction m with
  | zero => intro k i _ _; rfl
  | succ m ih =>
    intro k i hi hp
    have s := rput_none (k + m) form n acc l i (by omega) hl (by have := hp 0 (by omega); simpa using this)
    have r := ih k (i + 1) (by omega) (fun j hj => by
      have := hp (j + 1) (by omega)
      rw [show i + 1 + j = i + (j + 1) from by omega, this])
    rw [show k + (m + 1) = k + m + 1 from rfl, s, r, show i + 1 + m = i + (m + 1) from by omega]
theorem rput_runL (form n : Int) (l : List Int) (hl : l.length ≤ 32) (m k lo i P : Nat) (acc Q M L : Int) (eQ : (2 : Int) ^ P = Q) (eM : (2 : Int) ^ m = M) (eL : (2 : Int) ^ lo = L) (hi : i + m + P = l.length) (hlo : lo + m ≤ 32) (hp : ∀ j, j < m → l.getD (i + j) 0 = ((lo + (m - 1 - j) : Nat) : Int)) (h0 : 0 ≤ acc) (h1 : acc < 4294967296) :
    d2P.l0 (k + m) form n l acc i = d2P.l0 k form n l ((acc + (n % 4294967296) / Q % M * L) % 4294967296) ((i + m : Nat) : Int) := by
  subst eQ eM eL; exact rput_run form n l hl m k lo i P acc hi hlo hp h0 h1
theorem rput1 (k : Nat) (n : Int) : d2P.f (k + 66) 1 n = some (putR 1 n) := by
  have eR : putR 1 n = if getN 1 (p1 (n % 4294967296)) = n then (p1 (n % 4294967296), true) else (0, false) := by
    unfold putR
    rw [putN_1]
    by_cases h : getN 1 (p1 (n % 4294967296)) = n
    · rw [if_pos h, if_pos ⟨by decide, by decide, h⟩]
    · rw [if_neg h, if_neg (fun hh => h hh.2.2)]
  rw [eR]
  unfold d2P.f d2B.f
  rw [if_pos (show (1 : Int) = 1 from rfl)]
  rw [obind]
  refine Eq.trans (rput_runL 1 n [31, 30, 29, 28, 27, 26, 25, 24, 23, 22, 21, 20] (by decide) 12 (k + 54) 20 0 0 _ 1 4096 1048576 rfl rfl rfl (by decide) (by decide) (by decide) (by omega) (by omega)) ?_
  have hu0 : 0 ≤ n % 4294967296 := by omega
  have hu1 : n % 4294967296 < 4294967296 := by omega
  generalize n % 4294967296 = u at hu0 hu1
  have e : (0 + u / 1 % 4096 * 1048576) % 4294967296 = p1 u := by unfold p1; omega
  rw [e]
  have hp : 0 ≤ p1 u ∧ p1 u < 4294967296 := by rw [← e]; omega
  exact rput_end (k + 20) 1 n _ [31, 30, 29, 28, 27, 26, 25, 24, 23, 22, 21, 20] (by decide) hp.1 hp.2
theorem rput2 (k : Nat) (n : Int) : d2P.f (k + 66) 2 n = some (putR 2 n) := by
  have eR : putR 2 n = if getN 2 (p2 (n % 4294967296)) = n then (p2 (n % 4294967296), true) else (0, false) := by
    unfold putR
    rw [putN_2]
    by_cases h : getN 2 (p2 (n % 4294967296)) = n
    · rw [if_pos h, if_pos ⟨by decide, by decide, h⟩]
    · rw [if_neg h, if_neg (fun hh => h hh.2.2)]
  rw [eR]
  unfold d2P.f d2B.f
  rw [if_neg (show ¬((2 : Int) = 1) by decide)]
  rw [if_pos (show (2 : Int) = 2 from rfl)]
  rw [obind]
  refine Eq.trans (rput_runL 2 n [31, 30, 29, 28, 27, 26, 25, 11, 10, 9, 8, 7] (by decide) 7 (k + 59) 25 0 5 _ 32 128 33554432 rfl rfl rfl (by decide) (by decide) (by decide) (by omega) (by omega)) ?_
  refine Eq.trans (rput_runL 2 n [31, 30, 29, 28, 27, 26, 25, 11, 10, 9, 8, 7] (by decide) 5 (k + 54) 7 7 0 _ 1 32 128 rfl rfl rfl (by decide) (by decide) (by decide) (by omega) (by omega)) ?_
  have hu0 : 0 ≤ n % 4294967296 := by omega
  have hu1 : n % 4294967296 < 4294967296 := by omega
  generalize n % 4294967296 = u at hu0 hu1
  have e : ((0 + u / 32 % 128 * 33554432) % 4294967296 + u / 1 % 32 * 128) % 4294967296 = p2 u := by unfold p2; omega
  rw [e]
  have hp : 0 ≤ p2 u ∧ p2 u < 4294967296 := by rw [← e]; omega
  exact rput_end (k + 20) 2 n _ [31, 30, 29, 28, 27, 26, 25, 11, 10, 9, 8, 7] (by decide) hp.1 hp.2
theorem rput3 (k : Nat) (n : Int) : d2P.f (k + 66) 3 n = some (putR 3 n) := by
  have eR : putR 3 n = if getN 3 (p3 (n % 4294967296)) = n then (p3 (n % 4294967296), true) else (0, false) := by
    unfold putR
    rw [putN_3]
    by_cases h : getN 3 (p3 (n % 4294967296)) = n
    · rw [if_pos h, if_pos ⟨by decide, by decide, h⟩]
    · rw [if_neg h, if_neg (fun hh => h hh.2.2)]
  rw [eR]
  unfold d2P.f d2B.f
  rw [if_neg (show ¬((3 : Int) = 1) by decide)]
  rw [if_neg (show ¬((3 : Int) = 2) by decide)]
  rw [if_pos (show (3 : Int) = 3 from rfl)]
  rw [obind]
  refine Eq.trans (rput_runL 3 n [31, 7, 30, 29, 28, 27, 26, 25, 11, 10, 9, 8, -1] (by decide) 1 (k + 65) 31 0 12 _ 4096 2 2147483648 rfl rfl rfl (by decide) (by decide) (by decide) (by omega) (by omega)) ?_
  refine Eq.trans (rput_runL 3 n [31, 7, 30, 29, 28, 27, 26, 25, 11, 10, 9, 8, -1] (by decide) 1 (k + 64) 7 1 11 _ 2048 2 128 rfl rfl rfl (by decide) (by decide) (by decide) (by omega) (by omega)) ?_
  refine Eq.trans (rput_runL 3 n [31, 7, 30, 29, 28, 27, 26, 25, 11, 10, 9, 8, -1] (by decide) 6 (k + 58) 25 2 5 _ 32 64 33554432 rfl rfl rfl (by decide) (by decide) (by decide) (by omega) (by omega)) ?_
  refine Eq.trans (rput_runL 3 n [31, 7, 30, 29, 28, 27, 26, 25, 11, 10, 9, 8, -1] (by decide) 4 (k + 54) 8 8 1 _ 2 16 256 rfl rfl rfl (by decide) (by decide) (by decide) (by omega) (by omega)) ?_
  refine Eq.trans (rput_noughts 3 n _ [31, 7, 30, 29, 28, 27, 26, 25, 11, 10, 9, 8, -1] (by decide) 1 (k + 53) 12 (by decide) (by decide)) ?_
  have hu0 : 0 ≤ n % 4294967296 := by omega
  have hu1 : n % 4294967296 < 4294967296 := by omega
  generalize n % 4294967296 = u at hu0 hu1
  have e : ((((0 + u / 4096 % 2 * 2147483648) % 4294967296 + u / 2048 % 2 * 128) % 4294967296 + u / 32 % 64 * 33554432) % 4294967296 + u / 2 % 16 * 256) % 4294967296 = p3 u := by unfold p3; omega
  rw [e]
  have hp : 0 ≤ p3 u ∧ p3 u < 4294967296 := by rw [← e]; omega
  exact rput_end (k + 19) 3 n _ [31, 7, 30, 29, 28, 27, 26, 25, 11, 10, 9, 8, -1] (by decide) hp.1 hp.2
theorem rput4 (k : Nat) (n : Int) : d2P.f (k + 66) 4 n = some (putR 4 n) := by
  have eR : putR 4 n = if getN 4 (p4 (n % 4294967296)) = n then (p4 (n % 4294967296), true) else (0, false) := by
    unfold putR
    rw [putN_4]
    by_cases h : getN 4 (p4 (n % 4294967296)) = n
    · rw [if_pos h, if_pos ⟨by decide, by decide, h⟩]
    · rw [if_neg h, if_neg (fun hh => h hh.2.2)]
  rw [eR]
  unfold d2P.f d2B.f
  rw [if_neg (show ¬((4 : Int) = 1) by decide)]
  rw [if_neg (show ¬((4 : Int) = 2) by decide)]
  rw [if_neg (show ¬((4 : Int) = 3) by decide)]
  rw [if_pos (show (4 : Int) = 4 from rfl)]
  rw [obind]
  refine Eq.trans (rput_runL 4 n [31, 30, 29, 28, 27, 26, 25, 24, 23, 22, 21, 20, 19, 18, 17, 16, 15, 14, 13, 12, -1, -1, -1, -1, -1, -1, -1, -1, -1, -1, -1, -1] (by decide) 20 (k + 46) 12 0 12 _ 4096 1048576 4096 rfl rfl rfl (by decide) (by decide) (by decide) (by omega) (by omega)) ?_
  refine Eq.trans (rput_noughts 4 n _ [31, 30, 29, 28, 27, 26, 25, 24, 23, 22, 21, 20, 19, 18, 17, 16, 15, 14, 13, 12, -1, -1, -1, -1, -1, -1, -1, -1, -1, -1, -1, -1] (by decide) 12 (k + 34) 20 (by decide) (by decide)) ?_
  have hu0 : 0 ≤ n % 4294967296 := by omega
  have hu1 : n % 4294967296 < 4294967296 := by omega
  generalize n % 4294967296 = u at hu0 hu1
  have e : (0 + u / 4096 % 1048576 * 4096) % 4294967296 = p4 u := by unfold p4; omega
  rw [e]
  have hp : 0 ≤ p4 u ∧ p4 u < 4294967296 := by rw [← e]; omega
  exact rput_end (k + 0) 4 n _ [31, 30, 29, 28, 27, 26, 25, 24, 23, 22, 21, 20, 19, 18, 17, 16, 15, 14, 13, 12, -1, -1, -1, -1, -1, -1, -1, -1, -1, -1, -1, -1] (by decide) hp.1 hp.2
theorem rput5 (k : Nat) (n : Int) : d2P.f (k + 66) 5 n = some (putR 5 n) := by
  have eR : putR 5 n = if getN 5 (p5 (n % 4294967296)) = n then (p5 (n % 4294967296), true) else (0, false) := by
    unfold putR
    rw [putN_5]
    by_cases h : getN 5 (p5 (n % 4294967296)) = n
    · rw [if_pos h, if_pos ⟨by decide, by decide, h⟩]
    · rw [if_neg h, if_neg (fun hh => h hh.2.2)]
  rw [eR]
  unfold d2P.f d2B.f
  rw [if_neg (show ¬((5 : Int) = 1) by decide)]
  rw [if_neg (show ¬((5 : Int) = 2) by decide)]
  rw [if_neg (show ¬((5 : Int) = 3) by decide)]
  rw [if_neg (show ¬((5 : Int) = 4) by decide)]
  rw [if_pos (show (5 : Int) = 5 from rfl)]
  rw [obind]
  refine Eq.trans (rput_runL 5 n [31, 19, 18, 17, 16, 15, 14, 13, 12, 20, 30, 29, 28, 27, 26, 25, 24, 23, 22, 21, -1] (by decide) 1 (k + 65) 31 0 20 _ 1048576 2 2147483648 rfl rfl rfl (by decide) (by decide) (by decide) (by omega) (by omega)) ?_
  refine Eq.trans (rput_runL 5 n [31, 19, 18, 17, 16, 15, 14, 13, 12, 20, 30, 29, 28, 27, 26, 25, 24, 23, 22, 21, -1] (by decide) 8 (k + 57) 12 1 12 _ 4096 256 4096 rfl rfl rfl (by decide) (by decide) (by decide) (by omega) (by omega)) ?_
  refine Eq.trans (rput_runL 5 n [31, 19, 18, 17, 16, 15, 14, 13, 12, 20, 30, 29, 28, 27, 26, 25, 24, 23, 22, 21, -1] (by decide) 1 (k + 56) 20 9 11 _ 2048 2 1048576 rfl rfl rfl (by decide) (by decide) (by decide) (by omega) (by omega)) ?_
  refine Eq.trans (rput_runL 5 n [31, 19, 18, 17, 16, 15, 14, 13, 12, 20, 30, 29, 28, 27, 26, 25, 24, 23, 22, 21, -1] (by decide) 10 (k + 46) 21 10 1 _ 2 1024 2097152 rfl rfl rfl (by decide) (by decide) (by decide) (by omega) (by omega)) ?_
  refine Eq.trans (rput_noughts 5 n _ [31, 19, 18, 17, 16, 15, 14, 13, 12, 20, 30, 29, 28, 27, 26, 25, 24, 23, 22, 21, -1] (by decide) 1 (k + 45) 20 (by decide) (by decide)) ?_
  have hu0 : 0 ≤ n % 4294967296 := by omega
  have hu1 : n % 4294967296 < 4294967296 := by omega
  generalize n % 4294967296 = u at hu0 hu1
  have e : ((((0 + u / 1048576 % 2 * 2147483648) % 4294967296 + u / 4096 % 256 * 4096) % 4294967296 + u / 2048 % 2 * 1048576) % 4294967296 + u / 2 % 1024 * 2097152) % 4294967296 = p5 u := by unfold p5; omega
  rw [e]
  have hp : 0 ≤ p5 u ∧ p5 u < 4294967296 := by rw [← e]; omega
  exact rput_end (k + 11) 5 n _ [31, 19, 18, 17, 16, 15, 14, 13, 12, 20, 30, 29, 28, 27, 26, 25, 24, 23, 22, 21, -1] (by decide) hp.1 hp.2
theorem rput_is (k : Nat) (form n : Int) : d2P.f (k + 66) form n = some (putR form n) := by
  by_cases h : form < 1 ∨ 5 < form
  · have e : putR form n = (0, false) := by unfold putR; rw [if_neg (by omega)]
    rw [e]
    unfold d2P.f
    rw [bits_none form h, obind, show k + 66 = k + 65 + 1 from rfl]
    generalize k + 65 = K
    simp only [d2P.l0]
    rw [if_neg (by decide), if_pos (by decide)]
  · have : form = 1 ∨ form = 2 ∨ form = 3 ∨ form = 4 ∨ form = 5 := by omega
    rcases this with rfl | rfl | rfl | rfl | rfl
    · exact rput1 k n
    · exact rput2 k n
    · exact rput3 k n
    · exact rput4 k n
    · exact rput5 k n
/-! ### the document's instructions -/
abbrev RRow := Int × Int × Int × Int × Bool × Bool × Bool × Bool
def rrow (op : Int) : RRow := (d3O.f 2 op).getD (0, 0, 0, 0, false, false, false, false)
theorem rof_chk : ∀ n : Fin 46, (d3O.f 2 ((n.val + 1 : Nat) : Int)).isSome = true ∧ (rrow ((n.val + 1 : Nat) : Int)).1 = lo ((n.val + 1 : Nat) : Int) ∧ (rrow ((n.val + 1 : Nat) : Int)).2.1 = th ((n.val + 1 : Nat) : Int) ∧ (rrow ((n.val + 1 : Nat) : Int)).2.2.1 = sv ((n.val + 1 : Nat) : Int) ∧ (rrow ((n.val + 1 : Nat) : Int)).2.2.2.1 = (if hs ((n.val + 1 : Nat) : Int) = true then 6 else fm ((n.val + 1 : Nat) : Int)) ∧
  (rrow ((n.val + 1 : Nat) : Int)).2.2.2.2.1 = hd ((n.val + 1 : Nat) : Int) ∧ (rrow ((n.val + 1 : Nat) : Int)).2.2.2.2.2.1 = ha ((n.val + 1 : Nat) : Int) ∧ (rrow ((n.val + 1 : Nat) : Int)).2.2.2.2.2.2.1 = hb ((n.val + 1 : Nat) : Int) ∧ (rrow ((n.val + 1 : Nat) : Int)).2.2.2.2.2.2.2 = true := by decide +kernel
theorem rof_in (k : Nat) (hk : 2 ≤ k) (op : Int) (h0 : 1 ≤ op) (h1 : op ≤ 46) : d3O.f k op = some (lo op, th op, sv op, (if hs op = true then 6 else fm op), hd op, ha op, hb op, true) := by
  refine at_rounds (g := fun k => d3O.f k op) (fun k => d3O.mono op k) hk ?_
  obtain ⟨n, rfl⟩ := in_nat op h0 h1
  obtain ⟨c1, c2, c3, c4, c5, c6, c7, c8, c9⟩ := rof_chk n
  show d3O.f 2 _ = _
  generalize ((n.val + 1 : Nat) : Int) = op at *
  have e : d3O.f 2 op = some (rrow op) := by
    unfold rrow
    cases hq : d3O.f 2 op with
    | none => rw [hq] at c1; cases c1
    | some x => rfl
  rw [e, ← c2, ← c3, ← c4, ← c5, ← c6, ← c7, ← c8, ← c9]
theorem rof_out (k : Nat) (hk : 1 ≤ k) (op : Int) (h : op < 1 ∨ 46 < op) : d3O.f k op = some (0, 0, 0, 0, false, false, false, false) := by
  obtain ⟨k, rfl⟩ : ∃ m, k = m + 1 := ⟨k - 1, by omega⟩
  unfold d3O.f
  by_cases c : op < 1
  · rw [if_pos c]; simp only [d3O.j0]; rw [if_pos trivial]
  · rw [if_neg c, decide_eq_true (by omega)]; simp only [d3O.j0]; rw [if_pos trivial]
theorem rreg_is (n : Int) (b : Bool) : d3r.f n b = some (decide (n = 0 ∨ (b = true ∧ 0 < n ∧ n < 32))) := by
  unfold d3r.f
  by_cases c : n ≥ 0
  · rw [if_pos c]
    by_cases d : n < 32
    · rw [if_pos d]
      cases b with
      | true =>
        rw [if_pos rfl]
        congr 1
        rw [eq_comm, decide_eq_true_eq]
        by_cases e : n = 0
        · exact .inl e
        · exact .inr ⟨rfl, by omega, d⟩
      | false =>
        rw [if_neg (by decide)]
        congr 1
        rw [Bool.eq_iff_iff, beq_iff_eq, decide_eq_true_eq]
        exact ⟨fun h => .inl h, fun h => by rcases h with h | ⟨h, _⟩; exact h; cases h⟩
    · rw [if_neg d, decide_eq_false (by rintro (h | h); omega; exact d h.2.2)]
  · rw [if_neg c, decide_eq_false (by rintro (h | h); omega; omega)]
def rbase (op rd rs1 rs2 : Int) : Int :=
  (((((((((lo op + ((th op * 4096) % 4294967296)) % 4294967296) + ((sv op * 33554432) % 4294967296)) % 4294967296) + (((rd % 4294967296) * 128) % 4294967296)) % 4294967296) + (((rs1 % 4294967296) * 32768) % 4294967296)) % 4294967296) + (((rs2 % 4294967296) * 1048576) % 4294967296)) % 4294967296
theorem rbase_is (op rd rs1 rs2 : Int) (h0 : 1 ≤ op) (h1 : op ≤ 46) (hrd : 0 ≤ rd ∧ rd < 32) (hr1 : 0 ≤ rs1 ∧ rs1 < 32) (hr2 : 0 ≤ rs2 ∧ rs2 < 32) :
    rbase op rd rs1 rs2 = lo op + th op * 4096 + sv op * 33554432 + rd * 128 + rs1 * 32768 + rs2 * 1048576 := by
  obtain ⟨⟨b1, b2, b3, b4, b5, b6⟩, _⟩ := cls op h0 h1
  unfold rbase
  generalize lo op = l at *
  generalize th op = t at *
  generalize sv op = s at *
  omega
theorem rword (op rd rs1 rs2 imm : Int) (h0 : 1 ≤ op) (h1 : op ≤ 46) (hok : okV op rd rs1 rs2 imm = true) : (rbase op rd rs1 rs2 + immW op imm) % 4294967296 = wdV op rd rs1 rs2 imm := by
  obtain ⟨r1, r2, r3, r4⟩ := regs_of op rd rs1 rs2 imm hok
  have hm := marks op rd rs1 rs2 imm _ h0 h1 hok rfl
  rw [rbase_is op rd rs1 rs2 h0 h1 (by omega) (by omega) (by omega)]
  show wdV op rd rs1 rs2 imm % 4294967296 = _
  omega
theorem renc_in (k : Nat) (op rd rs1 rs2 imm : Int) (h0 : 1 ≤ op) (h1 : op ≤ 46) : d3E.f (k + 68) op rd rs1 rs2 imm = some (if okV op rd rs1 rs2 imm = true then (wdV op rd rs1 rs2 imm, true) else (0, false)) := by
  have hw := rword op rd rs1 rs2 imm h0 h1
  have hc := (cls op h0 h1).2
  have bad : ∀ f d a b, d3E.j1 (k + 67) true op rd rs1 rs2 imm (lo op) (th op) (sv op) f d a b = some (0, false) := by
    intro f d a b
    rw [show k + 67 = k + 66 + 1 from rfl]
    generalize k + 66 = K
    simp only [d3E.j1]
    rw [if_pos trivial]
  have hput : ∀ f, d2P.f (k + 66) f imm = some (putR f imm) := fun f => rput_is k f imm
  have good : ∀ (hr : (rd = 0 ∨ (hd op = true ∧ 0 < rd ∧ rd < 32)) ∧ (rs1 = 0 ∨ (ha op = true ∧ 0 < rs1 ∧ rs1 < 32)) ∧ (rs2 = 0 ∨ (hb op = true ∧ 0 < rs2 ∧ rs2 < 32))),
      d3E.j1 (k + 67) false op rd rs1 rs2 imm (lo op) (th op) (sv op) (if hs op = true then 6 else fm op) (hd op) (ha op) (hb op) = some (if okV op rd rs1 rs2 imm = true then (wdV op rd rs1 rs2 imm, true) else (0, false)) := by
    rintro ⟨c1, c2, c3⟩
    have hok : okV op rd rs1 rs2 imm = immOk op imm := by
      unfold okV; rw [decide_eq_true c1, decide_eq_true c2, decide_eq_true c3]; rfl
    rw [hok] at hw ⊢
    rw [show k + 67 = (k + 65 + 1) + 1 from rfl]
    rw [show k + 66 = k + 65 + 1 from rfl] at hput
    generalize k + 65 = K at hput
    simp only [d3E.j1, d3E.j2]
    rw [if_neg (by decide), hput, obind]
    unfold immOk immW at hw
    unfold immOk
    by_cases cs : hs op = true
    · simp only [if_pos cs] at hw ⊢
      rw [if_neg (show ¬ ((6 : Int) = 0) by decide)]
      simp only [if_true]
      by_cases ci : 0 ≤ imm ∧ imm < 32
      · have hw2 := hw (decide_eq_true ci)
        rw [if_pos ci.1, if_pos ci.2, if_pos (decide_eq_true ci), ← hw2]
        rw [show ((imm % 4294967296) * 1048576) % 4294967296 = imm * 1048576 by omega]
        rfl
      · rw [if_neg (show ¬ (decide (0 ≤ imm ∧ imm < 32) = true) by rw [decide_eq_false ci]; decide)]
        by_cases cj : imm ≥ 0
        · rw [if_pos cj, if_neg (by omega)]
        · rw [if_neg cj]
    · simp only [if_neg cs] at hw ⊢
      have h6 : fm op ≠ 6 := by omega
      by_cases cf : fm op = 0
      · simp only [if_pos cf] at hw ⊢
        rw [if_neg h6]
        by_cases ci : imm = 0
        · have hw2 := hw (decide_eq_true ci)
          rw [if_pos (beq_iff_eq.mpr ci), if_pos (decide_eq_true ci), ← hw2]
          rfl
        · rw [if_neg (by rw [beq_eq_false_iff_ne.mpr ci]; decide), if_neg (by rw [decide_eq_false ci]; decide)]
      · simp only [if_neg cf] at hw ⊢
        rw [if_neg h6]
        by_cases ci : (putR (fm op) imm).2 = true
        · have hw2 := hw ci
          rw [if_pos ci, if_pos ci, putR_word _ _ ci, ← hw2]
          rfl
        · rw [if_neg ci, if_neg ci]
  have no : ¬ ((rd = 0 ∨ (hd op = true ∧ 0 < rd ∧ rd < 32)) ∧ (rs1 = 0 ∨ (ha op = true ∧ 0 < rs1 ∧ rs1 < 32)) ∧ (rs2 = 0 ∨ (hb op = true ∧ 0 < rs2 ∧ rs2 < 32))) → (some (if okV op rd rs1 rs2 imm = true then (wdV op rd rs1 rs2 imm, true) else (0, false)) : Option (Int × Bool)) = some (0, false) := by
    intro h
    rw [if_neg]
    intro hh
    have := regs_of op rd rs1 rs2 imm hh
    exact h ⟨this.1, this.2.1, this.2.2.1⟩
  unfold d3E.f
  rw [if_neg (by omega), beq_eq_false_iff_ne.mpr (show op ≠ 48 by omega)]
  rw [show k + 68 = k + 67 + 1 from rfl]
  have hof := rof_in (k + 67) (by omega) op h0 h1
  generalize k + 67 = K at *
  simp only [d3E.j0]
  rw [if_neg (by decide), hof, obind]
  show (if (true = true) then ((d3r.f rd (hd op)).bind _) else _) = _
  rw [if_pos rfl, rreg_is, obind]
  by_cases c1 : rd = 0 ∨ (hd op = true ∧ 0 < rd ∧ rd < 32)
  · rw [if_pos (decide_eq_true c1)]
    show ((d3r.f rs1 (ha op)).bind _) = _
    rw [rreg_is, obind]
    by_cases c2 : rs1 = 0 ∨ (ha op = true ∧ 0 < rs1 ∧ rs1 < 32)
    · rw [if_pos (decide_eq_true c2)]
      show ((d3r.f rs2 (hb op)).bind _) = _
      rw [rreg_is, obind]
      by_cases c3 : rs2 = 0 ∨ (hb op = true ∧ 0 < rs2 ∧ rs2 < 32)
      · rw [decide_eq_true c3]
        exact good ⟨c1, c2, c3⟩
      · rw [decide_eq_false c3, no (fun h => c3 h.2.2)]
        exact bad _ _ _ _
    · rw [if_neg (by rw [decide_eq_false c2]; decide), no (fun h => c2 h.2.1)]
      exact bad _ _ _ _
  · rw [if_neg (by rw [decide_eq_false c1]; decide), no (fun h => c1 h.1)]
    exact bad _ _ _ _
theorem renc_is (k : Nat) (op rd rs1 rs2 imm : Int) : d3E.f (k + 68) op rd rs1 rs2 imm = some (if okI op rd rs1 rs2 imm = true then (wdI op rd rs1 rs2 imm, true) else (0, false)) := by
  by_cases c : 1 ≤ op ∧ op ≤ 46
  · rw [(okI_in op rd rs1 rs2 imm c.1 c.2).1, (okI_in op rd rs1 rs2 imm c.1 c.2).2]
    exact renc_in k op rd rs1 rs2 imm c.1 c.2
  · by_cases d : op = 47 ∨ op = 48
    · have j : d3E.j0 (k + 68) true op rd rs1 rs2 imm = some (if okI op rd rs1 rs2 imm = true then (wdI op rd rs1 rs2 imm, true) else (0, false)) := by
        rw [show k + 68 = k + 67 + 1 from rfl]
        generalize k + 67 = K
        simp only [d3E.j0]
        rw [if_pos trivial]
        unfold okI
        rw [if_pos d]
        by_cases e : rd = 0 ∧ rs1 = 0 ∧ rs2 = 0 ∧ imm = 0
        · rw [if_pos e.1, if_pos e.2.1, if_pos e.2.2.1, if_pos e.2.2.2, if_pos (decide_eq_true e)]
          congr 2
          rcases d with rfl | rfl
          · show 115 + wrap64 (47 - 47) % 4294967296 * 1048576 % 4294967296 = 115
            unfold wrap64; omega
          · show 115 + wrap64 (48 - 47) % 4294967296 * 1048576 % 4294967296 = 1048691
            unfold wrap64; omega
        · rw [if_neg (show ¬ (decide (rd = 0 ∧ rs1 = 0 ∧ rs2 = 0 ∧ imm = 0) = true) by rw [decide_eq_false e]; decide)]
          by_cases e1 : rd = 0
          · rw [if_pos e1]
            by_cases e2 : rs1 = 0
            · rw [if_pos e2]
              by_cases e3 : rs2 = 0
              · rw [if_pos e3, if_neg (fun e4 => e ⟨e1, e2, e3, e4⟩)]
              · rw [if_neg e3]
            · rw [if_neg e2]
          · rw [if_neg e1]
      unfold d3E.f
      by_cases e : op = 47
      · rw [if_pos e]; exact j
      · rw [if_neg e, beq_iff_eq.mpr (show op = 48 by omega)]; exact j
    · unfold d3E.f okI
      rw [if_neg (by omega), beq_eq_false_iff_ne.mpr (show op ≠ 48 by omega), if_neg d, if_neg c]
      rw [show k + 68 = k + 67 + 1 from rfl]
      have hof := rof_out (k + 67) (by omega) op (by omega)
      generalize k + 67 = K at *
      simp only [d3E.j0]
      rw [if_neg (by decide), hof, obind]
      show (if (false = true) then _ else d3E.j1 K true op rd rs1 rs2 imm 0 0 0 0 false false false) = _
      rw [if_neg (by decide)]
      have hK : ∃ m, K = m + 1 := by
        cases K with
        | zero => simp [d3O.f, d3O.j0] at hof
        | succ m => exact ⟨m, rfl⟩
      obtain ⟨m, rfl⟩ := hK
      simp only [d3E.j1]
      rw [if_pos trivial]
      rfl
end Go.Proofs.Ytihecimbhhlhaaa.Pure
end
section
namespace Go.Proofs.Ytihecimbhhlhaaa.Pure
set_option linter.unusedVariables false
open Go.RowKit Go.Proofs.Ytihecimbhhlhaaa.PRs Go.Proofs.YtihecimbhhlhaaaW.PrintWords Go.Proofs.YtihecimbhhlhaaaW.PrintLast Go.Proofs.YtihecimbhhlhaaaW.PrintMore ImmPlain
theorem td (w n : Int) (h : 0 ≤ w) : Int.tdiv w n = w / n := Int.tdiv_eq_ediv_of_nonneg h
theorem tm (w n : Int) (h : 0 ≤ w) : Int.tmod w n = w % n := Int.tmod_eq_emod_of_nonneg h
theorem last_step (K : Nat) (w op p0 p1 p2 f rd a b im iv : Int) (x y z : Bool) (hi : (if f = 6 then w / 1048576 % 32 else im) = iv) (hw0 : 0 ≤ w) (A B : Ans) (ok : Bool) (wd : Int)
    (hE : d3E.f (K + 68) op rd a b iv = some (if ok = true then (wd, true) else (0, false)))
    (hn : d3D.l0 (K + 68) w (wrap64 (op + 1)) = some A) (hB : B = (op, rd, a, b, iv, true)) :
    d3D.j6 (K + 68 + 1) w op p0 p1 p2 f x y z op rd a b im = some (if ok = true ∧ wd = w then B else A) := by
  subst hB
  generalize K + 68 = N at *
  simp only [d3D.j6]
  by_cases c : f = 6
  · rw [if_pos c] at hi
    rw [if_pos c, td w _ hw0, hi, hE, obind]
    by_cases d : ok = true
    · rw [if_pos d]
      show (if (true = true) then (if wd = w then _ else _) else _) = _
      rw [if_pos rfl]
      by_cases e : wd = w
      · rw [if_pos e, if_pos ⟨d, e⟩]
      · rw [if_neg e, if_neg (fun h => e h.2)]; exact hn
    · rw [if_neg d]
      show (if (false = true) then _ else _) = _
      rw [if_neg (by decide), if_neg (fun h => d h.1)]; exact hn
  · rw [if_neg c] at hi
    rw [if_neg c, hi, hE, obind]
    by_cases d : ok = true
    · rw [if_pos d]
      show (if (true = true) then (if wd = w then _ else _) else _) = _
      rw [if_pos rfl]
      by_cases e : wd = w
      · rw [if_pos e, if_pos ⟨d, e⟩]
      · rw [if_neg e, if_neg (fun h => e h.2)]; exact hn
    · rw [if_neg d]
      show (if (false = true) then _ else _) = _
      rw [if_neg (by decide), if_neg (fun h => d h.1)]; exact hn
theorem mid_steps (K : Nat) (w op p0 p1 p2 f : Int) (x y z : Bool) (hf : 0 ≤ f ∧ f ≤ 6) (hw0 : 0 ≤ w) (hw1 : w < 4294967296) (A B : Ans) (ok : Bool) (wd : Int) (rd a b iv : Int)
    (e1 : (if x = true then w / 128 % 32 else 0) = rd) (e2 : (if y = true then w / 32768 % 32 else 0) = a) (e3 : (if z = true then w / 1048576 % 32 else 0) = b) (e4 : (if f = 6 then w / 1048576 % 32 else getN f w) = iv)
    (hE : d3E.f (K + 68) op rd a b iv = some (if ok = true then (wd, true) else (0, false)))
    (hn : d3D.l0 (K + 68) w (wrap64 (op + 1)) = some A) (hB : B = (op, rd, a, b, iv, true)) :
    d3D.j1 (K + 74) w op false p0 p1 p2 f x y z = some (if ok = true ∧ wd = w then B else A) := by
  have h6 : ∀ im, (if f = 6 then w / 1048576 % 32 else im) = iv → d3D.j6 (K + 69) w op p0 p1 p2 f x y z op rd a b im = some (if ok = true ∧ wd = w then B else A) :=
    fun im hi => last_step K w op p0 p1 p2 f rd a b im iv x y z hi hw0 A B ok wd hE hn hB
  have h4 : d3D.j4 (K + 71) w op p0 p1 p2 f x y z op rd a b 0 = some (if ok = true ∧ wd = w then B else A) := by
    have hg := rget_is (K + 36) f w hw0 hw1
    rw [show K + 36 + 33 = K + 69 by omega] at hg
    rw [show K + 71 = K + 69 + 1 + 1 from rfl]
    generalize K + 69 = N at *
    simp only [d3D.j4, d3D.j5]
    by_cases c : f > 0
    · rw [if_pos c]
      by_cases d : f < 6
      · rw [decide_eq_true d, if_pos rfl, hg, obind]
        exact h6 _ e4
      · rw [decide_eq_false d, if_neg (by decide)]
        refine h6 _ ?_
        rw [if_pos (by omega)] at e4 ⊢
        exact e4
    · rw [if_neg c, if_neg (by decide)]
      refine h6 _ ?_
      rw [if_neg (by omega)] at e4 ⊢
      rw [← e4, getN_none f w (by omega)]
  rw [show K + 74 = K + 71 + 1 + 1 + 1 from rfl]
  generalize K + 71 = N at *
  simp only [d3D.j1, d3D.j2, d3D.j3]
  rw [if_neg (by decide)]
  simp only [td w _ hw0]
  cases x <;> cases y <;> cases z <;> (simp only [↓reduceIte, Bool.false_eq_true] at e1 e2 e3 ⊢; subst e1 e2 e3; exact h4)
theorem f_rng (op : Int) (h0 : 1 ≤ op) (h1 : op ≤ 46) : 0 ≤ fm op ∧ fm op ≤ 5 := by
  obtain ⟨n, rfl⟩ := in_nat op h0 h1
  have : ∀ n : Fin 46, 0 ≤ fm ((n.val + 1 : Nat) : Int) ∧ fm ((n.val + 1 : Nat) : Int) ≤ 5 := by decide +kernel
  exact this n
theorem rround (K : Nat) (w op : Int) (h0 : 1 ≤ op) (h1 : op ≤ 46) (hw0 : 0 ≤ w) (hw1 : w < 4294967296) (A : Ans) (hn : d3D.l0 (K + 68) w (op + 1) = some A) :
    d3D.l0 (K + 75) w op = some (if Dec op w then Hit op w else A) := by
  have hwr : wrap64 (op + 1) = op + 1 := by unfold wrap64; omega
  have hn74 : d3D.l0 (K + 73) w (op + 1) = some A := at_rounds (g := fun k => d3D.l0 k w (op + 1)) (fun k => (d3D.mono_l k).1 w (op + 1)) (by omega) hn
  have hE := renc_is K op (gRd op w) (gR1 op w) (gR2 op w) (gIm op w)
  rw [(okI_in op _ _ _ _ h0 h1).1, (okI_in op _ _ _ _ h0 h1).2] at hE
  have hf := f_rng op h0 h1
  have hof := rof_in (K + 74) (by omega) op h0 h1
  have hm := mid_steps K w op (lo op) (th op) (sv op) (if hs op = true then 6 else fm op) (hd op) (ha op) (hb op) (by split <;> omega) hw0 hw1 A (Hit op w) (okV op (gRd op w) (gR1 op w) (gR2 op w) (gIm op w)) (wdV op (gRd op w) (gR1 op w) (gR2 op w) (gIm op w)) (gRd op w) (gR1 op w) (gR2 op w) (gIm op w) rfl rfl rfl
    (by unfold gIm
        by_cases c : hs op = true
        · rw [if_pos c, if_pos c, if_pos rfl]
        · rw [if_neg c, if_neg c, if_neg (by omega)]) hE (by rw [hwr]; exact hn) rfl
  rw [show K + 75 = K + 74 + 1 from rfl]
  have e : d3D.l0 (K + 74 + 1) w op = d3D.j1 (K + 74) w op (w % 128 != lo op) (lo op) (th op) (sv op) (if hs op = true then 6 else fm op) (hd op) (ha op) (hb op) := by
    generalize K + 74 = N at hof
    simp only [d3D.l0]
    rw [if_pos (by omega), hof, obind]
    show (if (true = true) then _ else _) = _
    rw [if_pos rfl, tm w _ hw0]
  rw [e]
  by_cases c : w % 128 = lo op
  · rw [c, show (lo op != lo op) = false by rw [bne_self_eq_false]]
    exact hm
  · rw [show (w % 128 != lo op) = true by rw [bne_iff_ne]; exact c]
    have nd : ¬ Dec op w := fun h => c (dec_marks op w h0 h1 h).1
    rw [if_neg nd, show K + 74 = K + 73 + 1 from rfl]
    generalize K + 73 = N at *
    simp only [d3D.j1]
    rw [if_pos trivial, hwr]
    exact hn74
theorem sround (K : Nat) (w op wd : Int) (h : (op = 47 ∧ wd = 115) ∨ (op = 48 ∧ wd = 1048691)) (hw0 : 0 ≤ w) (hw1 : w < 4294967296) (A : Ans) (hn : d3D.l0 (K + 68) w (op + 1) = some A) :
    d3D.l0 (K + 75) w op = some (if wd = w then (op, 0, 0, 0, 0, true) else A) := by
  have hwr : wrap64 (op + 1) = op + 1 := by unfold wrap64; omega
  have hE := renc_is K op 0 0 0 0
  have hok : okI op 0 0 0 0 = true ∧ wdI op 0 0 0 0 = wd := by rcases h with ⟨rfl, rfl⟩ | ⟨rfl, rfl⟩ <;> exact ⟨by decide, by decide⟩
  rw [hok.1, hok.2] at hE
  have hof := rof_out (K + 74) (by omega) op (by omega)
  have hm := mid_steps K w op 0 0 0 0 false false false (by omega) hw0 hw1 A (op, 0, 0, 0, 0, true) true wd 0 0 0 0 rfl rfl rfl
    (by rw [if_neg (by decide), getN_none 0 w (by omega)]) hE (by rw [hwr]; exact hn) rfl
  have e : d3D.l0 (K + 74 + 1) w op = d3D.j1 (K + 74) w op false 0 0 0 0 false false false := by
    generalize K + 74 = N at hof
    simp only [d3D.l0]
    rw [if_pos (by omega), hof, obind]
    show (if (false = true) then _ else _) = _
    rw [if_neg (by decide)]
  rw [show K + 75 = K + 74 + 1 from rfl, e, hm]
  by_cases c : wd = w
  · rw [if_pos ⟨rfl, c⟩, if_pos c]
  · rw [if_neg (fun h => c h.2), if_neg c]
def Tail (w : Int) : Ans := if 115 = w then (47, 0, 0, 0, 0, true) else if 1048691 = w then (48, 0, 0, 0, 0, true) else Miss
theorem tail_is (K : Nat) (w : Int) (hw0 : 0 ≤ w) (hw1 : w < 4294967296) : d3D.l0 (K + 82) w 47 = some (Tail w) := by
  have h49 : d3D.l0 (K + 68) w (48 + 1) = some Miss := by
    rw [show K + 68 = K + 67 + 1 from rfl]
    generalize K + 67 = N
    simp only [d3D.l0]
    rw [if_neg (by decide)]
    rfl
  have h48 := sround K w 48 1048691 (.inr ⟨rfl, rfl⟩) hw0 hw1 _ h49
  have h47 := sround (K + 7) w 47 115 (.inl ⟨rfl, rfl⟩) hw0 hw1 _ (by rw [show K + 7 + 68 = K + 75 by omega]; exact h48)
  rw [show K + 7 + 75 = K + 82 by omega] at h47
  exact h47
theorem ref_loop (w : Int) (hw0 : 0 ≤ w) (hw1 : w < 4294967296) (d : Nat) : ∀ (op : Int), 1 ≤ op → op + d = 47 →
    ((∃ o, op ≤ o ∧ o ≤ 46 ∧ Dec o w ∧ d3D.l0 (82 + 7 * d) w op = some (Hit o w)) ∨ ((∀ o, op ≤ o → o ≤ 46 → ¬ Dec o w) ∧ d3D.l0 (82 + 7 * d) w op = some (Tail w))) := by
  induction d with
  | zero =>
    intro op h1 hd
    obtain rfl : op = 47 := by omega
    exact .inr ⟨fun o h2 h3 => by omega, tail_is 0 w hw0 hw1⟩
  | succ d ih =>
    intro op h1 hd
    have step := fun A => rround (14 + 7 * d) w op h1 (by omega) hw0 hw1 A
    rw [show 14 + 7 * d + 68 = 82 + 7 * d by omega, show 14 + 7 * d + 75 = 82 + 7 * (d + 1) by omega] at step
    rcases ih (op + 1) (by omega) (by omega) with ⟨o, o1, o2, o3, o4⟩ | ⟨n1, n2⟩
    · have s := step _ o4
      by_cases e : Dec op w
      · exact .inl ⟨op, by omega, by omega, e, by rw [s, if_pos e]⟩
      · exact .inl ⟨o, by omega, o2, o3, by rw [s, if_neg e]⟩
    · have s := step _ n2
      by_cases e : Dec op w
      · exact .inl ⟨op, by omega, by omega, e, by rw [s, if_pos e]⟩
      · refine .inr ⟨fun o h2 h3 => ?_, by rw [s, if_neg e]⟩
        by_cases f : o = op
        · subst f; exact e
        · exact n1 o (by omega) h3
/-- The document's Decode gives an instruction back from its word. -/
theorem rdec_back (op rd rs1 rs2 imm : Int) (hok : okI op rd rs1 rs2 imm = true) (h0 : 1 ≤ op) (h1 : op ≤ 46) : d3D.f 404 (wdI op rd rs1 rs2 imm) = some (op, rd, rs1, rs2, imm, true) ∧ 0 ≤ wdI op rd rs1 rs2 imm ∧ wdI op rd rs1 rs2 imm < 4294967296 := by
  have e := okI_in op rd rs1 rs2 imm h0 h1
  rw [e.1] at hok
  rw [e.2]
  have hm := marks op rd rs1 rs2 imm _ h0 h1 hok rfl
  have hd := dec_of op rd rs1 rs2 imm _ h0 h1 hok rfl
  have hb := comes_back op rd rs1 rs2 imm _ h0 h1 hok rfl
  generalize wdV op rd rs1 rs2 imm = w at *
  refine ⟨?_, hm.2.2.1, hm.2.2.2⟩
  rcases ref_loop w hm.2.2.1 hm.2.2.2 46 1 (by decide) (by decide) with ⟨o, o1, o2, o3, o4⟩ | ⟨n1, -⟩
  · obtain rfl := dec_one o op w (by omega) o2 h0 h1 o3 hd
    have q : d3D.f 404 w = d3D.l0 404 w 1 := rfl
    rw [q]
    refine (o4.trans ?_)
    unfold Hit
    rw [hb.1, hb.2.1, hb.2.2.1, hb.2.2.2]
  · exact absurd hd (n1 op (by omega) h1)
end Go.Proofs.Ytihecimbhhlhaaa.Pure
end
