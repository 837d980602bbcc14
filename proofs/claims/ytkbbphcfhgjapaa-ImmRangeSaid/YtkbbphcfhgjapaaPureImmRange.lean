/- Which numbers each form has: those of so many bits with a sign, some of them even, or without their lowest twelve bits (P2.2). -/
import Derived.Test.YtkbbphcfhgjapaaPImmRangex2
import Derived.Test.YtkbbphcfhgjapaaImmPlain
namespace Go.Proofs.Ytkbbphcfhgjapaa.Pure
set_option linter.unusedVariables false
open Go.RowKit Go.Proofs.Ytkbbphcfhgjapaa.PImmRange Go.Proofs.YtkbbphcfhgjapaaW.PrintWords Go.Proofs.YtkbbphcfhgjapaaW.PrintLast Go.Proofs.YtkbbphcfhgjapaaW.PrintMore ImmPlain

theorem obind {α β : Type} (a : α) (f : α → Option β) : Option.bind (some a) f = f a := by
  have h : ∀ x, x = some a → Option.bind x f = f a := fun x hx => by rw [hx]; rfl
  exact h _ rfl

theorem shrC (w : Int) (n : Nat) (h : n ≤ 32) : shr .u32 w (n : Int) = w / 2 ^ n := by
  unfold shr; rw [Int.toNat_natCast, Nat.min_eq_left (by simpa [IntKind.bits] using h)]

theorem mask_is (m : Nat) (hm : m ≤ 32) : imm_mask.f m = some (2 ^ m - 1) := by
  unfold imm_mask.f
  rw [if_pos (by omega)]
  unfold shl
  rw [Int.toNat_natCast, Nat.min_eq_left (by simpa [IntKind.bits] using hm), IntKind.wrap_u32, Int.one_mul]
  have : m < 32 ∨ m = 32 := by omega
  rcases this with h | rfl
  · have h2' : 2 ^ m ≤ 2 ^ 31 := Nat.pow_le_pow_right (by decide) (by omega)
    have h2 : (2 : Int) ^ m ≤ 2147483648 := by
      have := Int.ofNat_le.mpr h2'
      rw [Int.natCast_pow, Int.natCast_pow] at this
      exact this
    have h3 : (0 : Int) < 2 ^ m := Int.pow_pos (by decide)
    congr 1
    omega
  · rfl

/-- A piece of a word, put to its place. -/
theorem piece_is (w : Int) (f m t : Nat) (hf : f ≤ 31) (hm : m ≤ 32) (ht : t ≤ 31) (F M T : Int) (eF : (2 : Int) ^ f = F) (eM : (2 : Int) ^ m = M) (eT : (2 : Int) ^ t = T) (hMT : M * T ≤ 4294967296) (hw0 : 0 ≤ w) (hw1 : w < 4294967296) :
    shl .u32 (Go.bits .and .u32 (shr .u32 w (f : Int)) (2 ^ m - 1)) (t : Int) = w / F % M * T := by
  subst eF eM eT
  have hx : (w / 2 ^ f : Int) < 4294967296 ∧ 0 ≤ (w / 2 ^ f : Int) := by
    have hpos : (0 : Int) < 2 ^ f := Int.pow_pos (by decide)
    exact ⟨Int.lt_of_le_of_lt (Int.ediv_le_self _ hw0) hw1, Int.ediv_nonneg hw0 (Int.le_of_lt hpos)⟩
  rw [shrC w f (by omega), and_mask m hm _ hx.2 hx.1]
  unfold shl
  rw [Int.toNat_natCast, Nat.min_eq_left (by simp [IntKind.bits]; omega), IntKind.wrap_u32]
  have hM : (0 : Int) < 2 ^ m := Int.pow_pos (by decide)
  have hT : (0 : Int) < 2 ^ t := Int.pow_pos (by decide)
  have a0 : 0 ≤ w / 2 ^ f % 2 ^ m := Int.emod_nonneg _ (by omega)
  have a1 : w / 2 ^ f % 2 ^ m < 2 ^ m := Int.emod_lt_of_pos _ hM
  have a2 : w / 2 ^ f % 2 ^ m * 2 ^ t < 2 ^ m * 2 ^ t := Int.mul_lt_mul_of_pos_right a1 hT
  exact Int.emod_eq_of_lt (Int.mul_nonneg a0 (by omega)) (by omega)

/-- One round of the loop over the pieces. -/
theorem get_step (k : Nat) (w many acc : Int) (l : List S54) (i : Nat) (hi : i < l.length) (hl : l.length ≤ 4) (f m t : Nat) (hp : l.getD i z54 = ⟨f, m, t⟩) (hf : f ≤ 31) (hm : m ≤ 32) (ht : t ≤ 31) (F M T : Int) (eF : (2 : Int) ^ f = F) (eM : (2 : Int) ^ m = M) (eT : (2 : Int) ^ t = T) (hMT : M * T ≤ 4294967296) (hw0 : 0 ≤ w) (hw1 : w < 4294967296) :
    imm_get.l0 (k + 1) w many acc l l.length i = imm_get.l0 k w many (Go.bits .or .u32 acc (w / F % M * T)) l l.length ((i + 1 : Nat) : Int) := by
  have e1 : rd_T54 l i = ⟨f, m, t⟩ := by simpa [rd_T54] using hp
  simp only [imm_get.l0, e1]
  rw [if_pos (by omega), if_pos (by omega), if_pos (by omega), if_pos (by omega), mask_is m hm]
  simp only [Option.bind_some]
  rw [if_pos (by omega)]
  have e3 : wrap64 ((i : Int) + 1) = ((i + 1 : Nat) : Int) := by unfold wrap64; omega
  rw [piece_is w f m t hf hm ht F M T eF eM eT hMT hw0 hw1, e3]

theorem sext12 (n : Int) (h0 : 0 ≤ n) (hn : n < 4096) : num_Sext.f n 12 = some ((if n < 2048 then n else n - 4096) % 4294967296) := by
  have e1 : wrap64 (32 - 12) = 20 := by unfold wrap64; omega
  have e2 : shl .u32 n 20 = n * 1048576 := by
    show IntKind.u32.wrap (n * 2 ^ 20) = _
    rw [IntKind.wrap_u32]; omega
  have e3 : shr .i32 (wrap32 (n * 1048576)) 20 = (if n < 2048 then n else n - 4096) := by
    show wrap32 (n * 1048576) / 2 ^ 20 = _
    unfold wrap32; split <;> omega
  unfold num_Sext.f
  rw [if_neg (by omega), if_neg (by omega), e1, if_pos (by omega), e2, e3]

theorem sext13 (n : Int) (h0 : 0 ≤ n) (hn : n < 8192) : num_Sext.f n 13 = some ((if n < 4096 then n else n - 8192) % 4294967296) := by
  have e1 : wrap64 (32 - 13) = 19 := by unfold wrap64; omega
  have e2 : shl .u32 n 19 = n * 524288 := by
    show IntKind.u32.wrap (n * 2 ^ 19) = _
    rw [IntKind.wrap_u32]; omega
  have e3 : shr .i32 (wrap32 (n * 524288)) 19 = (if n < 4096 then n else n - 8192) := by
    show wrap32 (n * 524288) / 2 ^ 19 = _
    unfold wrap32; split <;> omega
  unfold num_Sext.f
  rw [if_neg (by omega), if_neg (by omega), e1, if_pos (by omega), e2, e3]

theorem sext21 (n : Int) (h0 : 0 ≤ n) (hn : n < 2097152) : num_Sext.f n 21 = some ((if n < 1048576 then n else n - 2097152) % 4294967296) := by
  have e1 : wrap64 (32 - 21) = 11 := by unfold wrap64; omega
  have e2 : shl .u32 n 11 = n * 2048 := by
    show IntKind.u32.wrap (n * 2 ^ 11) = _
    rw [IntKind.wrap_u32]; omega
  have e3 : shr .i32 (wrap32 (n * 2048)) 11 = (if n < 1048576 then n else n - 2097152) := by
    show wrap32 (n * 2048) / 2 ^ 11 = _
    unfold wrap32; split <;> omega
  unfold num_Sext.f
  rw [if_neg (by omega), if_neg (by omega), e1, if_pos (by omega), e2, e3]

theorem signed_is (n m : Int) (h0 : -2147483648 ≤ n) (h1 : n ≤ 2147483647) (hm : m % 4294967296 = n % 4294967296) : num_Signed.f m = some n := by
  unfold num_Signed.f
  have : wrap32 m = n := by unfold wrap32; omega
  rw [this]

theorem get_end (k : Nat) (w many acc n m : Int) (l : List S54) (hs : num_Sext.f acc many = some m) (h0 : -2147483648 ≤ n) (h1 : n ≤ 2147483647) (hm : m % 4294967296 = n % 4294967296) :
    imm_get.l0 (k + 1) w many acc l l.length (l.length : Nat) = some n := by
  simp only [imm_get.l0]
  rw [if_neg (by omega), hs, obind, signed_is n m h0 h1 hm, obind]

theorem get1 (k : Nat) (w : Int) (hw0 : 0 ≤ w) (hw1 : w < 4294967296) : imm_get.f (k + 6) 1 w = some (getN 1 w) := by
  rw [getN_1]
  unfold imm_get.f imm_pieces.f
  rw [if_pos (show (1 : Int) = 1 from rfl)]
  rw [obind]
  refine Eq.trans (get_step (k + 5) w 12 _ [⟨20, 12, 0⟩] 0 (by decide) (by decide) 20 12 0 rfl (by decide) (by decide) (by decide) 1048576 4096 1 rfl rfl rfl (by decide) hw0 hw1) ?_
  rw [or_zero _ (by omega) (by omega)]
  refine get_end (k + 4) w 12 _ _ _ [⟨20, 12, 0⟩] (sext12 _ (by omega) (by omega)) ?_ ?_ ?_
  · unfold g1; split <;> omega
  · unfold g1; split <;> omega
  · unfold g1; (repeat' split) <;> omega

theorem get2 (k : Nat) (w : Int) (hw0 : 0 ≤ w) (hw1 : w < 4294967296) : imm_get.f (k + 6) 2 w = some (getN 2 w) := by
  rw [getN_2]
  unfold imm_get.f imm_pieces.f
  rw [if_neg (show ¬((2 : Int) = 1) by decide)]
  rw [if_pos (show (2 : Int) = 2 from rfl)]
  rw [obind]
  refine Eq.trans (get_step (k + 5) w 12 _ [⟨25, 7, 5⟩, ⟨7, 5, 0⟩] 0 (by decide) (by decide) 25 7 5 rfl (by decide) (by decide) (by decide) 33554432 128 32 rfl rfl rfl (by decide) hw0 hw1) ?_
  rw [or_zero _ (by omega) (by omega)]
  refine Eq.trans (get_step (k + 4) w 12 _ [⟨25, 7, 5⟩, ⟨7, 5, 0⟩] 1 (by decide) (by decide) 7 5 0 rfl (by decide) (by decide) (by decide) 128 32 1 rfl rfl rfl (by decide) hw0 hw1) ?_
  rw [or_add 5 _ _ (by omega) (by omega) (by omega) (by omega) (by omega) (by omega)]
  refine get_end (k + 3) w 12 _ _ _ [⟨25, 7, 5⟩, ⟨7, 5, 0⟩] (sext12 _ (by omega) (by omega)) ?_ ?_ ?_
  · unfold g2; split <;> omega
  · unfold g2; split <;> omega
  · unfold g2; (repeat' split) <;> omega

theorem get3 (k : Nat) (w : Int) (hw0 : 0 ≤ w) (hw1 : w < 4294967296) : imm_get.f (k + 6) 3 w = some (getN 3 w) := by
  rw [getN_3]
  unfold imm_get.f imm_pieces.f
  rw [if_neg (show ¬((3 : Int) = 1) by decide)]
  rw [if_neg (show ¬((3 : Int) = 2) by decide)]
  rw [if_pos (show (3 : Int) = 3 from rfl)]
  rw [obind]
  refine Eq.trans (get_step (k + 5) w 13 _ [⟨31, 1, 12⟩, ⟨7, 1, 11⟩, ⟨25, 6, 5⟩, ⟨8, 4, 1⟩] 0 (by decide) (by decide) 31 1 12 rfl (by decide) (by decide) (by decide) 2147483648 2 4096 rfl rfl rfl (by decide) hw0 hw1) ?_
  rw [or_zero _ (by omega) (by omega)]
  refine Eq.trans (get_step (k + 4) w 13 _ [⟨31, 1, 12⟩, ⟨7, 1, 11⟩, ⟨25, 6, 5⟩, ⟨8, 4, 1⟩] 1 (by decide) (by decide) 7 1 11 rfl (by decide) (by decide) (by decide) 128 2 2048 rfl rfl rfl (by decide) hw0 hw1) ?_
  rw [or_add 12 _ _ (by omega) (by omega) (by omega) (by omega) (by omega) (by omega)]
  refine Eq.trans (get_step (k + 3) w 13 _ [⟨31, 1, 12⟩, ⟨7, 1, 11⟩, ⟨25, 6, 5⟩, ⟨8, 4, 1⟩] 2 (by decide) (by decide) 25 6 5 rfl (by decide) (by decide) (by decide) 33554432 64 32 rfl rfl rfl (by decide) hw0 hw1) ?_
  rw [or_add 11 _ _ (by omega) (by omega) (by omega) (by omega) (by omega) (by omega)]
  refine Eq.trans (get_step (k + 2) w 13 _ [⟨31, 1, 12⟩, ⟨7, 1, 11⟩, ⟨25, 6, 5⟩, ⟨8, 4, 1⟩] 3 (by decide) (by decide) 8 4 1 rfl (by decide) (by decide) (by decide) 256 16 2 rfl rfl rfl (by decide) hw0 hw1) ?_
  rw [or_add 5 _ _ (by omega) (by omega) (by omega) (by omega) (by omega) (by omega)]
  refine get_end (k + 1) w 13 _ _ _ [⟨31, 1, 12⟩, ⟨7, 1, 11⟩, ⟨25, 6, 5⟩, ⟨8, 4, 1⟩] (sext13 _ (by omega) (by omega)) ?_ ?_ ?_
  · unfold g3; split <;> omega
  · unfold g3; split <;> omega
  · unfold g3; (repeat' split) <;> omega

theorem get4 (k : Nat) (w : Int) (hw0 : 0 ≤ w) (hw1 : w < 4294967296) : imm_get.f (k + 6) 4 w = some (getN 4 w) := by
  rw [getN_4]
  unfold imm_get.f imm_pieces.f
  rw [if_neg (show ¬((4 : Int) = 1) by decide)]
  rw [if_neg (show ¬((4 : Int) = 2) by decide)]
  rw [if_neg (show ¬((4 : Int) = 3) by decide)]
  rw [if_pos (show (4 : Int) = 4 from rfl)]
  rw [obind]
  refine Eq.trans (get_step (k + 5) w 32 _ [⟨12, 20, 12⟩] 0 (by decide) (by decide) 12 20 12 rfl (by decide) (by decide) (by decide) 4096 1048576 4096 rfl rfl rfl (by decide) hw0 hw1) ?_
  rw [or_zero _ (by omega) (by omega)]
  refine get_end (k + 4) w 32 _ _ _ [⟨12, 20, 12⟩] (by unfold num_Sext.f; rw [if_neg (show ¬((32 : Int) < 1) by decide), if_pos (show (32 : Int) ≥ 32 by decide)]) ?_ ?_ ?_
  · unfold g4; split <;> omega
  · unfold g4; split <;> omega
  · unfold g4; split <;> omega

theorem get5 (k : Nat) (w : Int) (hw0 : 0 ≤ w) (hw1 : w < 4294967296) : imm_get.f (k + 6) 5 w = some (getN 5 w) := by
  rw [getN_5]
  unfold imm_get.f imm_pieces.f
  rw [if_neg (show ¬((5 : Int) = 1) by decide)]
  rw [if_neg (show ¬((5 : Int) = 2) by decide)]
  rw [if_neg (show ¬((5 : Int) = 3) by decide)]
  rw [if_neg (show ¬((5 : Int) = 4) by decide)]
  rw [if_pos (show (5 : Int) = 5 from rfl)]
  rw [obind]
  refine Eq.trans (get_step (k + 5) w 21 _ [⟨31, 1, 20⟩, ⟨12, 8, 12⟩, ⟨20, 1, 11⟩, ⟨21, 10, 1⟩] 0 (by decide) (by decide) 31 1 20 rfl (by decide) (by decide) (by decide) 2147483648 2 1048576 rfl rfl rfl (by decide) hw0 hw1) ?_
  rw [or_zero _ (by omega) (by omega)]
  refine Eq.trans (get_step (k + 4) w 21 _ [⟨31, 1, 20⟩, ⟨12, 8, 12⟩, ⟨20, 1, 11⟩, ⟨21, 10, 1⟩] 1 (by decide) (by decide) 12 8 12 rfl (by decide) (by decide) (by decide) 4096 256 4096 rfl rfl rfl (by decide) hw0 hw1) ?_
  rw [or_add 20 _ _ (by omega) (by omega) (by omega) (by omega) (by omega) (by omega)]
  refine Eq.trans (get_step (k + 3) w 21 _ [⟨31, 1, 20⟩, ⟨12, 8, 12⟩, ⟨20, 1, 11⟩, ⟨21, 10, 1⟩] 2 (by decide) (by decide) 20 1 11 rfl (by decide) (by decide) (by decide) 1048576 2 2048 rfl rfl rfl (by decide) hw0 hw1) ?_
  rw [or_add 12 _ _ (by omega) (by omega) (by omega) (by omega) (by omega) (by omega)]
  refine Eq.trans (get_step (k + 2) w 21 _ [⟨31, 1, 20⟩, ⟨12, 8, 12⟩, ⟨20, 1, 11⟩, ⟨21, 10, 1⟩] 3 (by decide) (by decide) 21 10 1 rfl (by decide) (by decide) (by decide) 2097152 1024 2 rfl rfl rfl (by decide) hw0 hw1) ?_
  rw [or_add 11 _ _ (by omega) (by omega) (by omega) (by omega) (by omega) (by omega)]
  refine get_end (k + 1) w 21 _ _ _ [⟨31, 1, 20⟩, ⟨12, 8, 12⟩, ⟨20, 1, 11⟩, ⟨21, 10, 1⟩] (sext21 _ (by omega) (by omega)) ?_ ?_ ?_
  · unfold g5; split <;> omega
  · unfold g5; split <;> omega
  · unfold g5; (repeat' split) <;> omega

theorem getN_none (form w : Int) (hf : form < 1 ∨ 5 < form) : getN form w = 0 := by
  unfold getN
  rw [if_neg (by omega), if_neg (by omega), if_neg (by omega), if_neg (by omega), if_neg (by omega)]

theorem pieces_none (form : Int) (hf : form < 1 ∨ 5 < form) : imm_pieces.f form = some ([], 0) := by
  unfold imm_pieces.f
  rw [if_neg (by omega), if_neg (by omega), if_neg (by omega), if_neg (by omega), if_neg (by omega)]

theorem get_none (k : Nat) (form w : Int) (hf : form < 1 ∨ 5 < form) : imm_get.f (k + 6) form w = some (getN form w) := by
  rw [getN_none form w hf]
  unfold imm_get.f
  rw [pieces_none form hf, obind]
  exact get_end (k + 5) w 0 0 0 0 [] (by unfold num_Sext.f; rw [if_pos (show (0 : Int) < 1 by decide)]) (by decide) (by decide) (by decide)

theorem get_is (k : Nat) (form w : Int) (hw0 : 0 ≤ w) (hw1 : w < 4294967296) : imm_get.f (k + 6) form w = some (getN form w) := by
  by_cases h : form < 1 ∨ 5 < form
  · exact get_none k form w h
  · have : form = 1 ∨ form = 2 ∨ form = 3 ∨ form = 4 ∨ form = 5 := by omega
    rcases this with rfl | rfl | rfl | rfl | rfl
    · exact get1 k w hw0 hw1
    · exact get2 k w hw0 hw1
    · exact get3 k w hw0 hw1
    · exact get4 k w hw0 hw1
    · exact get5 k w hw0 hw1

/-- One round of Put's loop over the pieces. -/
theorem put_step (k : Nat) (form n many acc : Int) (l : List S54) (i : Nat) (hi : i < l.length) (hl : l.length ≤ 4) (f m t : Nat) (hp : l.getD i z54 = ⟨f, m, t⟩) (hf : f ≤ 31) (hm : m ≤ 32) (ht : t ≤ 31) (F M T : Int) (eF : (2 : Int) ^ f = F) (eM : (2 : Int) ^ m = M) (eT : (2 : Int) ^ t = T) (hMT : M * F ≤ 4294967296) :
    imm_Put.l0 (k + 1) form n many acc l l.length i = imm_Put.l0 k form n many (Go.bits .or .u32 acc (n % 4294967296 / T % M * F)) l l.length ((i + 1 : Nat) : Int) := by
  have e1 : rd_T54 l i = ⟨f, m, t⟩ := by simpa [rd_T54] using hp
  simp only [imm_Put.l0, e1]
  rw [if_pos (by omega), if_pos (by omega), if_pos (by omega), if_pos (by omega), mask_is m hm]
  simp only [Option.bind_some]
  rw [if_pos (by omega)]
  have e3 : wrap64 ((i : Int) + 1) = ((i + 1 : Nat) : Int) := by unfold wrap64; omega
  rw [piece_is (n % 4294967296) t m f ht hm hf T M F eT eM eF hMT (by omega) (by omega), e3]

theorem put_end (k : Nat) (form n many acc : Int) (l : List S54) (hm : many ≠ 0) (h0 : 0 ≤ acc) (h1 : acc < 4294967296) :
    imm_Put.l0 (k + 7) form n many acc l l.length (l.length : Nat) = some (if getN form acc = n then (acc, true) else (0, false)) := by
  simp only [imm_Put.l0]
  rw [if_neg (by omega), if_neg hm, get_is k form acc h0 h1, obind]
  split <;> rfl

/-- What Put answers. -/
def putR (form n : Int) : Int × Bool := if 1 ≤ form ∧ form ≤ 5 ∧ getN form (putN form (n % 4294967296)) = n then (putN form (n % 4294967296), true) else (0, false)

theorem put1 (k : Nat) (n : Int) : imm_Put.f (k + 11) 1 n = some (putR 1 n) := by
  have eR : putR 1 n = if getN 1 (p1 (n % 4294967296)) = n then (p1 (n % 4294967296), true) else (0, false) := by
    unfold putR
    rw [putN_1]
    by_cases h : getN 1 (p1 (n % 4294967296)) = n
    · rw [if_pos h, if_pos ⟨by decide, by decide, h⟩]
    · rw [if_neg h, if_neg (fun hh => h hh.2.2)]
  rw [eR]
  unfold imm_Put.f imm_pieces.f
  rw [if_pos (show (1 : Int) = 1 from rfl)]
  rw [obind]
  refine Eq.trans (put_step (k + 10) 1 n 12 _ [⟨20, 12, 0⟩] 0 (by decide) (by decide) 20 12 0 rfl (by decide) (by decide) (by decide) 1048576 4096 1 rfl rfl rfl (by decide)) ?_
  have hu0 : 0 ≤ n % 4294967296 := by omega
  have hu1 : n % 4294967296 < 4294967296 := by omega
  generalize n % 4294967296 = u at hu0 hu1
  rw [or_zero _ (by omega) (by omega)]
  have e : (u / 1 % 4096 * 1048576) = p1 u := by unfold p1; omega
  rw [e]
  have hp : 0 ≤ p1 u ∧ p1 u < 4294967296 := by rw [← e]; omega
  exact put_end (k + 3) 1 n 12 _ [⟨20, 12, 0⟩] (by decide) hp.1 hp.2

theorem put2 (k : Nat) (n : Int) : imm_Put.f (k + 11) 2 n = some (putR 2 n) := by
  have eR : putR 2 n = if getN 2 (p2 (n % 4294967296)) = n then (p2 (n % 4294967296), true) else (0, false) := by
    unfold putR
    rw [putN_2]
    by_cases h : getN 2 (p2 (n % 4294967296)) = n
    · rw [if_pos h, if_pos ⟨by decide, by decide, h⟩]
    · rw [if_neg h, if_neg (fun hh => h hh.2.2)]
  rw [eR]
  unfold imm_Put.f imm_pieces.f
  rw [if_neg (show ¬((2 : Int) = 1) by decide)]
  rw [if_pos (show (2 : Int) = 2 from rfl)]
  rw [obind]
  refine Eq.trans (put_step (k + 10) 2 n 12 _ [⟨25, 7, 5⟩, ⟨7, 5, 0⟩] 0 (by decide) (by decide) 25 7 5 rfl (by decide) (by decide) (by decide) 33554432 128 32 rfl rfl rfl (by decide)) ?_
  refine Eq.trans (put_step (k + 9) 2 n 12 _ [⟨25, 7, 5⟩, ⟨7, 5, 0⟩] 1 (by decide) (by decide) 7 5 0 rfl (by decide) (by decide) (by decide) 128 32 1 rfl rfl rfl (by decide)) ?_
  have hu0 : 0 ≤ n % 4294967296 := by omega
  have hu1 : n % 4294967296 < 4294967296 := by omega
  generalize n % 4294967296 = u at hu0 hu1
  rw [or_zero _ (by omega) (by omega)]
  rw [or_add 12 _ _ (by omega) (by omega) (by omega) (by omega) (by omega) (by omega)]
  have e : (u / 32 % 128 * 33554432) + (u / 1 % 32 * 128) = p2 u := by unfold p2; omega
  rw [e]
  have hp : 0 ≤ p2 u ∧ p2 u < 4294967296 := by rw [← e]; omega
  exact put_end (k + 2) 2 n 12 _ [⟨25, 7, 5⟩, ⟨7, 5, 0⟩] (by decide) hp.1 hp.2

theorem put3 (k : Nat) (n : Int) : imm_Put.f (k + 11) 3 n = some (putR 3 n) := by
  have eR : putR 3 n = if getN 3 (p3 (n % 4294967296)) = n then (p3 (n % 4294967296), true) else (0, false) := by
    unfold putR
    rw [putN_3]
    by_cases h : getN 3 (p3 (n % 4294967296)) = n
    · rw [if_pos h, if_pos ⟨by decide, by decide, h⟩]
    · rw [if_neg h, if_neg (fun hh => h hh.2.2)]
  rw [eR]
  unfold imm_Put.f imm_pieces.f
  rw [if_neg (show ¬((3 : Int) = 1) by decide)]
  rw [if_neg (show ¬((3 : Int) = 2) by decide)]
  rw [if_pos (show (3 : Int) = 3 from rfl)]
  rw [obind]
  refine Eq.trans (put_step (k + 10) 3 n 13 _ [⟨31, 1, 12⟩, ⟨7, 1, 11⟩, ⟨25, 6, 5⟩, ⟨8, 4, 1⟩] 0 (by decide) (by decide) 31 1 12 rfl (by decide) (by decide) (by decide) 2147483648 2 4096 rfl rfl rfl (by decide)) ?_
  refine Eq.trans (put_step (k + 9) 3 n 13 _ [⟨31, 1, 12⟩, ⟨7, 1, 11⟩, ⟨25, 6, 5⟩, ⟨8, 4, 1⟩] 1 (by decide) (by decide) 7 1 11 rfl (by decide) (by decide) (by decide) 128 2 2048 rfl rfl rfl (by decide)) ?_
  refine Eq.trans (put_step (k + 8) 3 n 13 _ [⟨31, 1, 12⟩, ⟨7, 1, 11⟩, ⟨25, 6, 5⟩, ⟨8, 4, 1⟩] 2 (by decide) (by decide) 25 6 5 rfl (by decide) (by decide) (by decide) 33554432 64 32 rfl rfl rfl (by decide)) ?_
  refine Eq.trans (put_step (k + 7) 3 n 13 _ [⟨31, 1, 12⟩, ⟨7, 1, 11⟩, ⟨25, 6, 5⟩, ⟨8, 4, 1⟩] 3 (by decide) (by decide) 8 4 1 rfl (by decide) (by decide) (by decide) 256 16 2 rfl rfl rfl (by decide)) ?_
  have hu0 : 0 ≤ n % 4294967296 := by omega
  have hu1 : n % 4294967296 < 4294967296 := by omega
  generalize n % 4294967296 = u at hu0 hu1
  rw [or_zero _ (by omega) (by omega)]
  rw [or_swap (u / 4096 % 2 * 2147483648) (u / 2048 % 2 * 128) (u / 32 % 64 * 33554432) (by omega) (by omega) (by omega) (by omega) (by omega) (by omega)]
  rw [or_add 31 (u / 4096 % 2 * 2147483648) (u / 32 % 64 * 33554432) (by omega) (by omega) (by omega) (by omega) (by omega) (by omega)]
  rw [or_swap _ (u / 2048 % 2 * 128) (u / 2 % 16 * 256) (by omega) (by omega) (by omega) (by omega) (by omega) (by omega)]
  rw [or_add 12 _ (u / 2 % 16 * 256) (by omega) (by omega) (by omega) (by omega) (by omega) (by omega)]
  rw [or_add 8 _ (u / 2048 % 2 * 128) (by omega) (by omega) (by omega) (by omega) (by omega) (by omega)]
  have e : (u / 4096 % 2 * 2147483648) + (u / 32 % 64 * 33554432) + (u / 2 % 16 * 256) + (u / 2048 % 2 * 128) = p3 u := by unfold p3; omega
  rw [e]
  have hp : 0 ≤ p3 u ∧ p3 u < 4294967296 := by rw [← e]; omega
  exact put_end (k + 0) 3 n 13 _ [⟨31, 1, 12⟩, ⟨7, 1, 11⟩, ⟨25, 6, 5⟩, ⟨8, 4, 1⟩] (by decide) hp.1 hp.2

theorem put4 (k : Nat) (n : Int) : imm_Put.f (k + 11) 4 n = some (putR 4 n) := by
  have eR : putR 4 n = if getN 4 (p4 (n % 4294967296)) = n then (p4 (n % 4294967296), true) else (0, false) := by
    unfold putR
    rw [putN_4]
    by_cases h : getN 4 (p4 (n % 4294967296)) = n
    · rw [if_pos h, if_pos ⟨by decide, by decide, h⟩]
    · rw [if_neg h, if_neg (fun hh => h hh.2.2)]
  rw [eR]
  unfold imm_Put.f imm_pieces.f
  rw [if_neg (show ¬((4 : Int) = 1) by decide)]
  rw [if_neg (show ¬((4 : Int) = 2) by decide)]
  rw [if_neg (show ¬((4 : Int) = 3) by decide)]
  rw [if_pos (show (4 : Int) = 4 from rfl)]
  rw [obind]
  refine Eq.trans (put_step (k + 10) 4 n 32 _ [⟨12, 20, 12⟩] 0 (by decide) (by decide) 12 20 12 rfl (by decide) (by decide) (by decide) 4096 1048576 4096 rfl rfl rfl (by decide)) ?_
  have hu0 : 0 ≤ n % 4294967296 := by omega
  have hu1 : n % 4294967296 < 4294967296 := by omega
  generalize n % 4294967296 = u at hu0 hu1
  rw [or_zero _ (by omega) (by omega)]
  have e : (u / 4096 % 1048576 * 4096) = p4 u := by unfold p4; omega
  rw [e]
  have hp : 0 ≤ p4 u ∧ p4 u < 4294967296 := by rw [← e]; omega
  exact put_end (k + 3) 4 n 32 _ [⟨12, 20, 12⟩] (by decide) hp.1 hp.2

theorem put5 (k : Nat) (n : Int) : imm_Put.f (k + 11) 5 n = some (putR 5 n) := by
  have eR : putR 5 n = if getN 5 (p5 (n % 4294967296)) = n then (p5 (n % 4294967296), true) else (0, false) := by
    unfold putR
    rw [putN_5]
    by_cases h : getN 5 (p5 (n % 4294967296)) = n
    · rw [if_pos h, if_pos ⟨by decide, by decide, h⟩]
    · rw [if_neg h, if_neg (fun hh => h hh.2.2)]
  rw [eR]
  unfold imm_Put.f imm_pieces.f
  rw [if_neg (show ¬((5 : Int) = 1) by decide)]
  rw [if_neg (show ¬((5 : Int) = 2) by decide)]
  rw [if_neg (show ¬((5 : Int) = 3) by decide)]
  rw [if_neg (show ¬((5 : Int) = 4) by decide)]
  rw [if_pos (show (5 : Int) = 5 from rfl)]
  rw [obind]
  refine Eq.trans (put_step (k + 10) 5 n 21 _ [⟨31, 1, 20⟩, ⟨12, 8, 12⟩, ⟨20, 1, 11⟩, ⟨21, 10, 1⟩] 0 (by decide) (by decide) 31 1 20 rfl (by decide) (by decide) (by decide) 2147483648 2 1048576 rfl rfl rfl (by decide)) ?_
  refine Eq.trans (put_step (k + 9) 5 n 21 _ [⟨31, 1, 20⟩, ⟨12, 8, 12⟩, ⟨20, 1, 11⟩, ⟨21, 10, 1⟩] 1 (by decide) (by decide) 12 8 12 rfl (by decide) (by decide) (by decide) 4096 256 4096 rfl rfl rfl (by decide)) ?_
  refine Eq.trans (put_step (k + 8) 5 n 21 _ [⟨31, 1, 20⟩, ⟨12, 8, 12⟩, ⟨20, 1, 11⟩, ⟨21, 10, 1⟩] 2 (by decide) (by decide) 20 1 11 rfl (by decide) (by decide) (by decide) 1048576 2 2048 rfl rfl rfl (by decide)) ?_
  refine Eq.trans (put_step (k + 7) 5 n 21 _ [⟨31, 1, 20⟩, ⟨12, 8, 12⟩, ⟨20, 1, 11⟩, ⟨21, 10, 1⟩] 3 (by decide) (by decide) 21 10 1 rfl (by decide) (by decide) (by decide) 2097152 1024 2 rfl rfl rfl (by decide)) ?_
  have hu0 : 0 ≤ n % 4294967296 := by omega
  have hu1 : n % 4294967296 < 4294967296 := by omega
  generalize n % 4294967296 = u at hu0 hu1
  rw [or_zero _ (by omega) (by omega)]
  have hr := or_range (u / 1048576 % 2 * 2147483648) (u / 4096 % 256 * 4096) (by omega) (by omega) (by omega) (by omega)
  rw [or_swap _ (u / 2048 % 2 * 1048576) (u / 2 % 1024 * 2097152) hr.1 hr.2 (by omega) (by omega) (by omega) (by omega)]
  rw [or_swap (u / 1048576 % 2 * 2147483648) (u / 4096 % 256 * 4096) (u / 2 % 1024 * 2097152) (by omega) (by omega) (by omega) (by omega) (by omega) (by omega)]
  rw [or_add 31 (u / 1048576 % 2 * 2147483648) (u / 2 % 1024 * 2097152) (by omega) (by omega) (by omega) (by omega) (by omega) (by omega)]
  rw [or_swap _ (u / 4096 % 256 * 4096) (u / 2048 % 2 * 1048576) (by omega) (by omega) (by omega) (by omega) (by omega) (by omega)]
  rw [or_add 21 _ (u / 2048 % 2 * 1048576) (by omega) (by omega) (by omega) (by omega) (by omega) (by omega)]
  rw [or_add 20 _ (u / 4096 % 256 * 4096) (by omega) (by omega) (by omega) (by omega) (by omega) (by omega)]
  have e : (u / 1048576 % 2 * 2147483648) + (u / 2 % 1024 * 2097152) + (u / 2048 % 2 * 1048576) + (u / 4096 % 256 * 4096) = p5 u := by unfold p5; omega
  rw [e]
  have hp : 0 ≤ p5 u ∧ p5 u < 4294967296 := by rw [← e]; omega
  exact put_end (k + 0) 5 n 21 _ [⟨31, 1, 20⟩, ⟨12, 8, 12⟩, ⟨20, 1, 11⟩, ⟨21, 10, 1⟩] (by decide) hp.1 hp.2

theorem put_none (k : Nat) (form n : Int) (hf : form < 1 ∨ 5 < form) : imm_Put.f (k + 11) form n = some (putR form n) := by
  have e : putR form n = (0, false) := by unfold putR; rw [if_neg (by omega)]
  rw [e]
  unfold imm_Put.f
  rw [pieces_none form hf, obind]
  simp only [imm_Put.l0]
  rw [if_neg (by decide), if_pos trivial]

theorem put_is (k : Nat) (form n : Int) : imm_Put.f (k + 11) form n = some (putR form n) := by
  by_cases h : form < 1 ∨ 5 < form
  · exact put_none k form n h
  · have : form = 1 ∨ form = 2 ∨ form = 3 ∨ form = 4 ∨ form = 5 := by omega
    rcases this with rfl | rfl | rfl | rfl | rfl
    · exact put1 k n
    · exact put2 k n
    · exact put3 k n
    · exact put4 k n
    · exact put5 k n

theorem lives_is (k : Nat) (hk : 20 ≤ k) : pintlelaw02_lives.f k = some true := by
  refine at_rounds (g := fun k => pintlelaw02_lives.f k) (fun k => pintlelaw02_lives.mono k) hk ?_
  show pintlelaw02_lives.f 20 = some true
  unfold pintlelaw02_lives.f imm_Get.f
  have e : putR 3 (-2) = (4261416832, true) := by decide
  have e2 : getN 3 4261416832 = -2 := by decide
  rw [put_is 9 3 (-2), e, obind, if_pos (by decide), if_pos (by decide), get_is 14 3 4261416832 (by decide) (by decide), e2, obind, obind]
  rfl

theorem wf_u8 {n : Int} (h : (Lit.int .u8 n).wf = true) : 0 ≤ n ∧ n < 256 := by
  simp only [Lit.wf, Bool.and_eq_true, decide_eq_true_eq] at h
  have e1 : IntKind.u8.min = 0 := by decide
  have e2 : IntKind.u8.max = 255 := by decide
  rw [e1, e2] at h
  omega

theorem wf_i32 {n : Int} (h : (Lit.int .i32 n).wf = true) : -2147483648 ≤ n ∧ n ≤ 2147483647 := by
  simp only [Lit.wf, Bool.and_eq_true, decide_eq_true_eq] at h
  have e1 : IntKind.i32.min = -2147483648 := by decide
  have e2 : IntKind.i32.max = 2147483647 := by decide
  rw [e1, e2] at h
  exact h

theorem form_is (a : Int) (h0 : 0 ≤ a) (h1 : a < 256) : wrap64 (1 + wrap64 (Int.tmod a 5)) = 1 + a % 5 := by
  rw [Int.tmod_eq_emod_of_nonneg h0]
  unfold wrap64; omega

theorem tmod_zero (n c : Int) (hc : 0 < c) : (Int.tmod n c == 0) = decide (n % c = 0) := by
  rw [Bool.eq_iff_iff, beq_iff_eq, decide_eq_true_eq]
  rw [← Int.dvd_iff_tmod_eq_zero, Int.dvd_iff_emod_eq_zero]

theorem rngp1 (n : Int) (h0 : -2147483648 ≤ n) (h1 : n ≤ 2147483647) : g1 (p1 (n % 4294967296)) = n ↔ (-2048 ≤ n ∧ n ≤ 2047) := by
  unfold g1 p1
  constructor
  · intro h
    split at h <;> omega
  · intro h
    split <;> omega

theorem rngp2 (n : Int) (h0 : -2147483648 ≤ n) (h1 : n ≤ 2147483647) : g2 (p2 (n % 4294967296)) = n ↔ (-2048 ≤ n ∧ n ≤ 2047) := by
  unfold g2 p2
  constructor
  · intro h
    split at h <;> omega
  · intro h
    split <;> omega

theorem rngp4 (n : Int) (h0 : -2147483648 ≤ n) (h1 : n ≤ 2147483647) : g4 (p4 (n % 4294967296)) = n ↔ (n % 4096 = 0) := by
  unfold g4 p4
  constructor
  · intro h
    split at h <;> omega
  · intro h
    split <;> omega

theorem rngp3 (n : Int) (h0 : -2147483648 ≤ n) (h1 : n ≤ 2147483647) : g3 (p3 (n % 4294967296)) = n ↔ (-4096 ≤ n ∧ n ≤ 4095 ∧ n % 2 = 0) := by
  unfold p3
  rw [g3_of (n % 4294967296 / 4096 % 2) (n % 4294967296 / 2048 % 2) (n % 4294967296 / 32 % 64) (n % 4294967296 / 2 % 16) (by omega) (by omega) (by omega) (by omega) (by omega) (by omega)]
  constructor
  · intro h
    omega
  · intro h
    omega

theorem rngp5 (n : Int) (h0 : -2147483648 ≤ n) (h1 : n ≤ 2147483647) : g5 (p5 (n % 4294967296)) = n ↔ (-1048576 ≤ n ∧ n ≤ 1048575 ∧ n % 2 = 0) := by
  unfold p5
  rw [g5_of (n % 4294967296 / 1048576 % 2) (n % 4294967296 / 4096 % 256) (n % 4294967296 / 2048 % 2) (n % 4294967296 / 2 % 1024) (by omega) (by omega) (by omega) (by omega) (by omega) (by omega)]
  constructor
  · intro h
    omega
  · intro h
    omega

theorem rng1 (n : Int) (h0 : -2147483648 ≤ n) (h1 : n ≤ 2147483647) : (putR 1 n).2 = decide (-2048 ≤ n ∧ n ≤ 2047) := by
  have e : getN 1 (putN 1 (n % 4294967296)) = n ↔ (-2048 ≤ n ∧ n ≤ 2047) := by
    rw [putN_1, getN_1]
    exact rngp1 n h0 h1
  unfold putR
  by_cases h : -2048 ≤ n ∧ n ≤ 2047
  · rw [if_pos ⟨by decide, by decide, e.mpr h⟩, decide_eq_true h]
  · rw [if_neg (fun hh => h (e.mp hh.2.2)), decide_eq_false h]

theorem rng2 (n : Int) (h0 : -2147483648 ≤ n) (h1 : n ≤ 2147483647) : (putR 2 n).2 = decide (-2048 ≤ n ∧ n ≤ 2047) := by
  have e : getN 2 (putN 2 (n % 4294967296)) = n ↔ (-2048 ≤ n ∧ n ≤ 2047) := by
    rw [putN_2, getN_2]
    exact rngp2 n h0 h1
  unfold putR
  by_cases h : -2048 ≤ n ∧ n ≤ 2047
  · rw [if_pos ⟨by decide, by decide, e.mpr h⟩, decide_eq_true h]
  · rw [if_neg (fun hh => h (e.mp hh.2.2)), decide_eq_false h]

theorem rng3 (n : Int) (h0 : -2147483648 ≤ n) (h1 : n ≤ 2147483647) : (putR 3 n).2 = decide (-4096 ≤ n ∧ n ≤ 4095 ∧ n % 2 = 0) := by
  have e : getN 3 (putN 3 (n % 4294967296)) = n ↔ (-4096 ≤ n ∧ n ≤ 4095 ∧ n % 2 = 0) := by
    rw [putN_3, getN_3]
    exact rngp3 n h0 h1
  unfold putR
  by_cases h : -4096 ≤ n ∧ n ≤ 4095 ∧ n % 2 = 0
  · rw [if_pos ⟨by decide, by decide, e.mpr h⟩, decide_eq_true h]
  · rw [if_neg (fun hh => h (e.mp hh.2.2)), decide_eq_false h]

theorem rng4 (n : Int) (h0 : -2147483648 ≤ n) (h1 : n ≤ 2147483647) : (putR 4 n).2 = decide (n % 4096 = 0) := by
  have e : getN 4 (putN 4 (n % 4294967296)) = n ↔ (n % 4096 = 0) := by
    rw [putN_4, getN_4]
    exact rngp4 n h0 h1
  unfold putR
  by_cases h : n % 4096 = 0
  · rw [if_pos ⟨by decide, by decide, e.mpr h⟩, decide_eq_true h]
  · rw [if_neg (fun hh => h (e.mp hh.2.2)), decide_eq_false h]

theorem rng5 (n : Int) (h0 : -2147483648 ≤ n) (h1 : n ≤ 2147483647) : (putR 5 n).2 = decide (-1048576 ≤ n ∧ n ≤ 1048575 ∧ n % 2 = 0) := by
  have e : getN 5 (putN 5 (n % 4294967296)) = n ↔ (-1048576 ≤ n ∧ n ≤ 1048575 ∧ n % 2 = 0) := by
    rw [putN_5, getN_5]
    exact rngp5 n h0 h1
  unfold putR
  by_cases h : -1048576 ≤ n ∧ n ≤ 1048575 ∧ n % 2 = 0
  · rw [if_pos ⟨by decide, by decide, e.mpr h⟩, decide_eq_true h]
  · rw [if_neg (fun hh => h (e.mp hh.2.2)), decide_eq_false h]

theorem ImmRange : pintlelaw02_ImmRange.Pure := by
  intro a n ha hn
  have hb := wf_u8 ha
  have hc := wf_i32 hn
  refine ⟨40, ?_⟩
  unfold pintlelaw02_ImmRange.f
  rw [form_is a hb.1 hb.2]
  have hf : a % 5 = 0 ∨ a % 5 = 1 ∨ a % 5 = 2 ∨ a % 5 = 3 ∨ a % 5 = 4 := by omega
  have hl := lives_is 38 (by decide)
  have t2 := tmod_zero n 2 (by decide)
  have t3 := tmod_zero n 4096 (by decide)
  rw [put_is 29]
  rw [obind]
  rcases hf with h | h | h | h | h
  · rw [h]
    have e := rng1 n hc.1 hc.2
    rw [show (1 + 0 : Int) = 1 from rfl, e]
    by_cases c1 : n ≥ -2048 <;> by_cases c2 : n ≤ 2047 <;> simp [c1, c2, pintlelaw02_ImmRange.j0, pintlelaw02_ImmRange.j1, hl]
  · rw [h]
    have e := rng2 n hc.1 hc.2
    rw [show (1 + 1 : Int) = 2 from rfl, e]
    by_cases c1 : n ≥ -2048 <;> by_cases c2 : n ≤ 2047 <;> simp [c1, c2, pintlelaw02_ImmRange.j0, pintlelaw02_ImmRange.j1, hl]
  · rw [h]
    have e := rng3 n hc.1 hc.2
    rw [show (1 + 2 : Int) = 3 from rfl, e]
    have e2 : (if n ≥ -2048 then pintlelaw02_ImmRange.j0 40 n 3 (decide (-4096 ≤ n ∧ n ≤ 4095 ∧ n % 2 = 0)) (decide (n ≤ 2047)) else pintlelaw02_ImmRange.j0 40 n 3 (decide (-4096 ≤ n ∧ n ≤ 4095 ∧ n % 2 = 0)) false) = pintlelaw02_ImmRange.j0 40 n 3 (decide (-4096 ≤ n ∧ n ≤ 4095 ∧ n % 2 = 0)) false := by
      split <;> simp only [pintlelaw02_ImmRange.j0, if_pos]
    rw [e2]
    by_cases c1 : n ≥ -4096 <;> by_cases c2 : n ≤ 4095 <;> simp [c1, c2, pintlelaw02_ImmRange.j0, pintlelaw02_ImmRange.j1, hl, t2]
  · rw [h]
    have e := rng4 n hc.1 hc.2
    rw [show (1 + 3 : Int) = 4 from rfl, e]
    by_cases c1 : n ≥ -2048 <;> simp [c1, pintlelaw02_ImmRange.j0, pintlelaw02_ImmRange.j1, hl, t3]
  · rw [h]
    have e := rng5 n hc.1 hc.2
    rw [show (1 + 4 : Int) = 5 from rfl, e]
    by_cases c1 : n ≥ -2048 <;> by_cases c2 : n ≥ -1048576 <;> by_cases c3 : n ≤ 1048575 <;> simp [c1, c2, c3, pintlelaw02_ImmRange.j0, pintlelaw02_ImmRange.j1, hl, t2]

end Go.Proofs.Ytkbbphcfhgjapaa.Pure
