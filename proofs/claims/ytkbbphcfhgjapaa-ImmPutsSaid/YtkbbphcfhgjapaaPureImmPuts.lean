/- The word of any number in any form, or that there is none, is as the document says (P2.2). -/
import Derived.Test.YtkbbphcfhgjapaaPutX
import Derived.Test.YtkbbphcfhgjapaaImmPlain
namespace Go.Proofs.Ytkbbphcfhgjapaa.Pure
set_option linter.unusedVariables false
open Go.RowKit Go.Proofs.Ytkbbphcfhgjapaa.PImmPuts Go.Proofs.YtkbbphcfhgjapaaW.PrintWords Go.Proofs.YtkbbphcfhgjapaaW.PrintLast Go.Proofs.YtkbbphcfhgjapaaW.PrintMore ImmPlain

theorem obind {α β : Type} (a : α) (f : α → Option β) : Option.bind (some a) f = f a := by
  have h : ∀ x, x = some a → Option.bind x f = f a := fun x hx => by rw [hx]; rfl
  exact h _ rfl

theorem shrC (w : Int) (n : Nat) (h : n ≤ 32) : shr .u32 w (n : Int) = w / 2 ^ n := by
  unfold shr; rw [Int.toNat_natCast, Nat.min_eq_left (by simpa [IntKind.bits] using h)]

theorem mask_is (m : Nat) (hm : m ≤ 32) : imm_mask.f m = some (2 ^ m - 1) := by
  unfold imm_mask.f
  rw [if_pos (by omega)]
  unfold shl
  rw [Int.toNat_natCast, Nat.min_eq_left (by simpa [IntKind.bits] using hm), IntKind.wrap_u32, Int.one_mul]
  have : m < 32 ∨ m = 32 := by omega
  rcases this with h | rfl
  · have h2' : 2 ^ m ≤ 2 ^ 31 := Nat.pow_le_pow_right (by decide) (by omega)
    have h2 : (2 : Int) ^ m ≤ 2147483648 := by
      have := Int.ofNat_le.mpr h2'
      rw [Int.natCast_pow, Int.natCast_pow] at this
      exact this
    have h3 : (0 : Int) < 2 ^ m := Int.pow_pos (by decide)
    congr 1
    omega
  · rfl

/-- A piece of a word, put to its place. -/
theorem piece_is (w : Int) (f m t : Nat) (hf : f ≤ 31) (hm : m ≤ 32) (ht : t ≤ 31) (F M T : Int) (eF : (2 : Int) ^ f = F) (eM : (2 : Int) ^ m = M) (eT : (2 : Int) ^ t = T) (hMT : M * T ≤ 4294967296) (hw0 : 0 ≤ w) (hw1 : w < 4294967296) :
    shl .u32 (Go.bits .and .u32 (shr .u32 w (f : Int)) (2 ^ m - 1)) (t : Int) = w / F % M * T := by
  subst eF eM eT
  have hx : (w / 2 ^ f : Int) < 4294967296 ∧ 0 ≤ (w / 2 ^ f : Int) := by
    have hpos : (0 : Int) < 2 ^ f := Int.pow_pos (by decide)
    exact ⟨Int.lt_of_le_of_lt (Int.ediv_le_self _ hw0) hw1, Int.ediv_nonneg hw0 (Int.le_of_lt hpos)⟩
  rw [shrC w f (by omega), and_mask m hm _ hx.2 hx.1]
  unfold shl
  rw [Int.toNat_natCast, Nat.min_eq_left (by simp [IntKind.bits]; omega), IntKind.wrap_u32]
  have hM : (0 : Int) < 2 ^ m := Int.pow_pos (by decide)
  have hT : (0 : Int) < 2 ^ t := Int.pow_pos (by decide)
  have a0 : 0 ≤ w / 2 ^ f % 2 ^ m := Int.emod_nonneg _ (by omega)
  have a1 : w / 2 ^ f % 2 ^ m < 2 ^ m := Int.emod_lt_of_pos _ hM
  have a2 : w / 2 ^ f % 2 ^ m * 2 ^ t < 2 ^ m * 2 ^ t := Int.mul_lt_mul_of_pos_right a1 hT
  exact Int.emod_eq_of_lt (Int.mul_nonneg a0 (by omega)) (by omega)

/-- One round of the loop over the pieces. -/
theorem get_step (k : Nat) (w many acc : Int) (l : List S54) (i : Nat) (hi : i < l.length) (hl : l.length ≤ 4) (f m t : Nat) (hp : l.getD i z54 = ⟨f, m, t⟩) (hf : f ≤ 31) (hm : m ≤ 32) (ht : t ≤ 31) (F M T : Int) (eF : (2 : Int) ^ f = F) (eM : (2 : Int) ^ m = M) (eT : (2 : Int) ^ t = T) (hMT : M * T ≤ 4294967296) (hw0 : 0 ≤ w) (hw1 : w < 4294967296) :
    imm_get.l0 (k + 1) w many acc l l.length i = imm_get.l0 k w many (Go.bits .or .u32 acc (w / F % M * T)) l l.length ((i + 1 : Nat) : Int) := by
  have e1 : rd_T54 l i = ⟨f, m, t⟩ := by simpa [rd_T54] using hp
  simp only [imm_get.l0, e1]
  rw [if_pos (by omega), if_pos (by omega), if_pos (by omega), if_pos (by omega), mask_is m hm]
  simp only [Option.bind_some]
  rw [if_pos (by omega)]
  have e3 : wrap64 ((i : Int) + 1) = ((i + 1 : Nat) : Int) := by unfold wrap64; omega
  rw [piece_is w f m t hf hm ht F M T eF eM eT hMT hw0 hw1, e3]

theorem sext12 (n : Int) (h0 : 0 ≤ n) (hn : n < 4096) : num_Sext.f n 12 = some ((if n < 2048 then n else n - 4096) % 4294967296) := by
  have e1 : wrap64 (32 - 12) = 20 := by unfold wrap64; omega
  have e2 : shl .u32 n 20 = n * 1048576 := by
    show IntKind.u32.wrap (n * 2 ^ 20) = _
    rw [IntKind.wrap_u32]; omega
  have e3 : shr .i32 (wrap32 (n * 1048576)) 20 = (if n < 2048 then n else n - 4096) := by
    show wrap32 (n * 1048576) / 2 ^ 20 = _
    unfold wrap32; split <;> omega
  unfold num_Sext.f
  rw [if_neg (by omega), if_neg (by omega), e1, if_pos (by omega), e2, e3]

theorem sext13 (n : Int) (h0 : 0 ≤ n) (hn : n < 8192) : num_Sext.f n 13 = some ((if n < 4096 then n else n - 8192) % 4294967296) := by
  have e1 : wrap64 (32 - 13) = 19 := by unfold wrap64; omega
  have e2 : shl .u32 n 19 = n * 524288 := by
    show IntKind.u32.wrap (n * 2 ^ 19) = _
    rw [IntKind.wrap_u32]; omega
  have e3 : shr .i32 (wrap32 (n * 524288)) 19 = (if n < 4096 then n else n - 8192) := by
    show wrap32 (n * 524288) / 2 ^ 19 = _
    unfold wrap32; split <;> omega
  unfold num_Sext.f
  rw [if_neg (by omega), if_neg (by omega), e1, if_pos (by omega), e2, e3]

theorem sext21 (n : Int) (h0 : 0 ≤ n) (hn : n < 2097152) : num_Sext.f n 21 = some ((if n < 1048576 then n else n - 2097152) % 4294967296) := by
  have e1 : wrap64 (32 - 21) = 11 := by unfold wrap64; omega
  have e2 : shl .u32 n 11 = n * 2048 := by
    show IntKind.u32.wrap (n * 2 ^ 11) = _
    rw [IntKind.wrap_u32]; omega
  have e3 : shr .i32 (wrap32 (n * 2048)) 11 = (if n < 1048576 then n else n - 2097152) := by
    show wrap32 (n * 2048) / 2 ^ 11 = _
    unfold wrap32; split <;> omega
  unfold num_Sext.f
  rw [if_neg (by omega), if_neg (by omega), e1, if_pos (by omega), e2, e3]

theorem signed_is (n m : Int) (h0 : -2147483648 ≤ n) (h1 : n ≤ 2147483647) (hm : m % 4294967296 = n % 4294967296) : num_Signed.f m = some n := by
  unfold num_Signed.f
  have : wrap32 m = n := by unfold wrap32; omega
  rw [this]

theorem get_end (k : Nat) (w many acc n m : Int) (l : List S54) (hs : num_Sext.f acc many = some m) (h0 : -2147483648 ≤ n) (h1 : n ≤ 2147483647) (hm : m % 4294967296 = n % 4294967296) :
    imm_get.l0 (k + 1) w many acc l l.length (l.length : Nat) = some n := by
  simp only [imm_get.l0]
  rw [if_neg (by omega), hs, obind, signed_is n m h0 h1 hm, obind]

theorem get1 (k : Nat) (w : Int) (hw0 : 0 ≤ w) (hw1 : w < 4294967296) : imm_get.f (k + 6) 1 w = some (getN 1 w) := by
  rw [getN_1]
  unfold imm_get.f imm_pieces.f
  rw [if_pos (show (1 : Int) = 1 from rfl)]
  rw [obind]
  refine Eq.trans (get_step (k + 5) w 12 _ [⟨20, 12, 0⟩] 0 (by decide) (by decide) 20 12 0 rfl (by decide) (by decide) (by decide) 1048576 4096 1 rfl rfl rfl (by decide) hw0 hw1) ?_
  rw [or_zero _ (by omega) (by omega)]
  refine get_end (k + 4) w 12 _ _ _ [⟨20, 12, 0⟩] (sext12 _ (by omega) (by omega)) ?_ ?_ ?_
  · unfold g1; split <;> omega
  · unfold g1; split <;> omega
  · unfold g1; (repeat' split) <;> omega

theorem get2 (k : Nat) (w : Int) (hw0 : 0 ≤ w) (hw1 : w < 4294967296) : imm_get.f (k + 6) 2 w = some (getN 2 w) := by
  rw [getN_2]
  unfold imm_get.f imm_pieces.f
  rw [if_neg (show ¬((2 : Int) = 1) by decide)]
  rw [if_pos (show (2 : Int) = 2 from rfl)]
  rw [obind]
  refine Eq.trans (get_step (k + 5) w 12 _ [⟨25, 7, 5⟩, ⟨7, 5, 0⟩] 0 (by decide) (by decide) 25 7 5 rfl (by decide) (by decide) (by decide) 33554432 128 32 rfl rfl rfl (by decide) hw0 hw1) ?_
  rw [or_zero _ (by omega) (by omega)]
  refine Eq.trans (get_step (k + 4) w 12 _ [⟨25, 7, 5⟩, ⟨7, 5, 0⟩] 1 (by decide) (by decide) 7 5 0 rfl (by decide) (by decide) (by decide) 128 32 1 rfl rfl rfl (by decide) hw0 hw1) ?_
  rw [or_add 5 _ _ (by omega) (by omega) (by omega) (by omega) (by omega) (by omega)]
  refine get_end (k + 3) w 12 _ _ _ [⟨25, 7, 5⟩, ⟨7, 5, 0⟩] (sext12 _ (by omega) (by omega)) ?_ ?_ ?_
  · unfold g2; split <;> omega
  · unfold g2; split <;> omega
  · unfold g2; (repeat' split) <;> omega

theorem get3 (k : Nat) (w : Int) (hw0 : 0 ≤ w) (hw1 : w < 4294967296) : imm_get.f (k + 6) 3 w = some (getN 3 w) := by
  rw [getN_3]
  unfold imm_get.f imm_pieces.f
  rw [if_neg (show ¬((3 : Int) = 1) by decide)]
  rw [if_neg (show ¬((3 : Int) = 2) by decide)]
  rw [if_pos (show (3 : Int) = 3 from rfl)]
  rw [obind]
  refine Eq.trans (get_step (k + 5) w 13 _ [⟨31, 1, 12⟩, ⟨7, 1, 11⟩, ⟨25, 6, 5⟩, ⟨8, 4, 1⟩] 0 (by decide) (by decide) 31 1 12 rfl (by decide) (by decide) (by decide) 2147483648 2 4096 rfl rfl rfl (by decide) hw0 hw1) ?_
  rw [or_zero _ (by omega) (by omega)]
  refine Eq.trans (get_step (k + 4) w 13 _ [⟨31, 1, 12⟩, ⟨7, 1, 11⟩, ⟨25, 6, 5⟩, ⟨8, 4, 1⟩] 1 (by decide) (by decide) 7 1 11 rfl (by decide) (by decide) (by decide) 128 2 2048 rfl rfl rfl (by decide) hw0 hw1) ?_
  rw [or_add 12 _ _ (by omega) (by omega) (by omega) (by omega) (by omega) (by omega)]
  refine Eq.trans (get_step (k + 3) w 13 _ [⟨31, 1, 12⟩, ⟨7, 1, 11⟩, ⟨25, 6, 5⟩, ⟨8, 4, 1⟩] 2 (by decide) (by decide) 25 6 5 rfl (by decide) (by decide) (by decide) 33554432 64 32 rfl rfl rfl (by decide) hw0 hw1) ?_
  rw [or_add 11 _ _ (by omega) (by omega) (by omega) (by omega) (by omega) (by omega)]
  refine Eq.trans (get_step (k + 2) w 13 _ [⟨31, 1, 12⟩, ⟨7, 1, 11⟩, ⟨25, 6, 5⟩, ⟨8, 4, 1⟩] 3 (by decide) (by decide) 8 4 1 rfl (by decide) (by decide) (by decide) 256 16 2 rfl rfl rfl (by decide) hw0 hw1) ?_
  rw [or_add 5 _ _ (by omega) (by omega) (by omega) (by omega) (by omega) (by omega)]
  refine get_end (k + 1) w 13 _ _ _ [⟨31, 1, 12⟩, ⟨7, 1, 11⟩, ⟨25, 6, 5⟩, ⟨8, 4, 1⟩] (sext13 _ (by omega) (by omega)) ?_ ?_ ?_
  · unfold g3; split <;> omega
  · unfold g3; split <;> omega
  · unfold g3; (repeat' split) <;> omega

theorem get4 (k : Nat) (w : Int) (hw0 : 0 ≤ w) (hw1 : w < 4294967296) : imm_get.f (k + 6) 4 w = some (getN 4 w) := by
  rw [getN_4]
  unfold imm_get.f imm_pieces.f
  rw [if_neg (show ¬((4 : Int) = 1) by decide)]
  rw [if_neg (show ¬((4 : Int) = 2) by decide)]
  rw [if_neg (show ¬((4 : Int) = 3) by decide)]
  rw [if_pos (show (4 : Int) = 4 from rfl)]
  rw [obind]
  refine Eq.trans (get_step (k + 5) w 32 _ [⟨12, 20, 12⟩] 0 (by decide) (by decide) 12 20 12 rfl (by decide) (by decide) (by decide) 4096 1048576 4096 rfl rfl rfl (by decide) hw0 hw1) ?_
  rw [or_zero _ (by omega) (by omega)]
  refine get_end (k + 4) w 32 _ _ _ [⟨12, 20, 12⟩] (by unfold num_Sext.f; rw [if_neg (show ¬((32 : Int) < 1) by decide), if_pos (show (32 : Int) ≥ 32 by decide)]) ?_ ?_ ?_
  · unfold g4; split <;> omega
  · unfold g4; split <;> omega
  · unfold g4; split <;> omega

theorem get5 (k : Nat) (w : Int) (hw0 : 0 ≤ w) (hw1 : w < 4294967296) : imm_get.f (k + 6) 5 w = some (getN 5 w) := by
  rw [getN_5]
  unfold imm_get.f imm_pieces.f
  rw [if_neg (show ¬((5 : Int) = 1) by decide)]
  rw [if_neg (show ¬((5 : Int) = 2) by decide)]
  rw [if_neg (show ¬((5 : Int) = 3) by decide)]
  rw [if_neg (show ¬((5 : Int) = 4) by decide)]
  rw [if_pos (show (5 : Int) = 5 from rfl)]
  rw [obind]
  refine Eq.trans (get_step (k + 5) w 21 _ [⟨31, 1, 20⟩, ⟨12, 8, 12⟩, ⟨20, 1, 11⟩, ⟨21, 10, 1⟩] 0 (by decide) (by decide) 31 1 20 rfl (by decide) (by decide) (by decide) 2147483648 2 1048576 rfl rfl rfl (by decide) hw0 hw1) ?_
  rw [or_zero _ (by omega) (by omega)]
  refine Eq.trans (get_step (k + 4) w 21 _ [⟨31, 1, 20⟩, ⟨12, 8, 12⟩, ⟨20, 1, 11⟩, ⟨21, 10, 1⟩] 1 (by decide) (by decide) 12 8 12 rfl (by decide) (by decide) (by decide) 4096 256 4096 rfl rfl rfl (by decide) hw0 hw1) ?_
  rw [or_add 20 _ _ (by omega) (by omega) (by omega) (by omega) (by omega) (by omega)]
  refine Eq.trans (get_step (k + 3) w 21 _ [⟨31, 1, 20⟩, ⟨12, 8, 12⟩, ⟨20, 1, 11⟩, ⟨21, 10, 1⟩] 2 (by decide) (by decide) 20 1 11 rfl (by decide) (by decide) (by decide) 1048576 2 2048 rfl rfl rfl (by decide) hw0 hw1) ?_
  rw [or_add 12 _ _ (by omega) (by omega) (by omega) (by omega) (by omega) (by omega)]
  refine Eq.trans (get_step (k + 2) w 21 _ [⟨31, 1, 20⟩, ⟨12, 8, 12⟩, ⟨20, 1, 11⟩, ⟨21, 10, 1⟩] 3 (by decide) (by decide) 21 10 1 rfl (by decide) (by decide) (by decide) 2097152 1024 2 rfl rfl rfl (by decide) hw0 hw1) ?_
  rw [or_add 11 _ _ (by omega) (by omega) (by omega) (by omega) (by omega) (by omega)]
  refine get_end (k + 1) w 21 _ _ _ [⟨31, 1, 20⟩, ⟨12, 8, 12⟩, ⟨20, 1, 11⟩, ⟨21, 10, 1⟩] (sext21 _ (by omega) (by omega)) ?_ ?_ ?_
  · unfold g5; split <;> omega
  · unfold g5; split <;> omega
  · unfold g5; (repeat' split) <;> omega

theorem getN_none (form w : Int) (hf : form < 1 ∨ 5 < form) : getN form w = 0 := by
  unfold getN
  rw [if_neg (by omega), if_neg (by omega), if_neg (by omega), if_neg (by omega), if_neg (by omega)]

theorem pieces_none (form : Int) (hf : form < 1 ∨ 5 < form) : imm_pieces.f form = some ([], 0) := by
  unfold imm_pieces.f
  rw [if_neg (by omega), if_neg (by omega), if_neg (by omega), if_neg (by omega), if_neg (by omega)]

theorem get_none (k : Nat) (form w : Int) (hf : form < 1 ∨ 5 < form) : imm_get.f (k + 6) form w = some (getN form w) := by
  rw [getN_none form w hf]
  unfold imm_get.f
  rw [pieces_none form hf, obind]
  exact get_end (k + 5) w 0 0 0 0 [] (by unfold num_Sext.f; rw [if_pos (show (0 : Int) < 1 by decide)]) (by decide) (by decide) (by decide)

theorem get_is (k : Nat) (form w : Int) (hw0 : 0 ≤ w) (hw1 : w < 4294967296) : imm_get.f (k + 6) form w = some (getN form w) := by
  by_cases h : form < 1 ∨ 5 < form
  · exact get_none k form w h
  · have : form = 1 ∨ form = 2 ∨ form = 3 ∨ form = 4 ∨ form = 5 := by omega
    rcases this with rfl | rfl | rfl | rfl | rfl
    · exact get1 k w hw0 hw1
    · exact get2 k w hw0 hw1
    · exact get3 k w hw0 hw1
    · exact get4 k w hw0 hw1
    · exact get5 k w hw0 hw1

/-- One round of Put's loop over the pieces. -/
theorem put_step (k : Nat) (form n many acc : Int) (l : List S54) (i : Nat) (hi : i < l.length) (hl : l.length ≤ 4) (f m t : Nat) (hp : l.getD i z54 = ⟨f, m, t⟩) (hf : f ≤ 31) (hm : m ≤ 32) (ht : t ≤ 31) (F M T : Int) (eF : (2 : Int) ^ f = F) (eM : (2 : Int) ^ m = M) (eT : (2 : Int) ^ t = T) (hMT : M * F ≤ 4294967296) :
    imm_Put.l0 (k + 1) form n many acc l l.length i = imm_Put.l0 k form n many (Go.bits .or .u32 acc (n % 4294967296 / T % M * F)) l l.length ((i + 1 : Nat) : Int) := by
  have e1 : rd_T54 l i = ⟨f, m, t⟩ := by simpa [rd_T54] using hp
  simp only [imm_Put.l0, e1]
  rw [if_pos (by omega), if_pos (by omega), if_pos (by omega), if_pos (by omega), mask_is m hm]
  simp only [Option.bind_some]
  rw [if_pos (by omega)]
  have e3 : wrap64 ((i : Int) + 1) = ((i + 1 : Nat) : Int) := by unfold wrap64; omega
  rw [piece_is (n % 4294967296) t m f ht hm hf T M F eT eM eF hMT (by omega) (by omega), e3]

theorem put_end (k : Nat) (form n many acc : Int) (l : List S54) (hm : many ≠ 0) (h0 : 0 ≤ acc) (h1 : acc < 4294967296) :
    imm_Put.l0 (k + 7) form n many acc l l.length (l.length : Nat) = some (if getN form acc = n then (acc, true) else (0, false)) := by
  simp only [imm_Put.l0]
  rw [if_neg (by omega), if_neg hm, get_is k form acc h0 h1, obind]
  split <;> rfl

/-- What Put answers. -/
def putR (form n : Int) : Int × Bool := if 1 ≤ form ∧ form ≤ 5 ∧ getN form (putN form (n % 4294967296)) = n then (putN form (n % 4294967296), true) else (0, false)

theorem put1 (k : Nat) (n : Int) : imm_Put.f (k + 11) 1 n = some (putR 1 n) := by
  have eR : putR 1 n = if getN 1 (p1 (n % 4294967296)) = n then (p1 (n % 4294967296), true) else (0, false) := by
    unfold putR
    rw [putN_1]
    by_cases h : getN 1 (p1 (n % 4294967296)) = n
    · rw [if_pos h, if_pos ⟨by decide, by decide, h⟩]
    · rw [if_neg h, if_neg (fun hh => h hh.2.2)]
  rw [eR]
  unfold imm_Put.f imm_pieces.f
  rw [if_pos (show (1 : Int) = 1 from rfl)]
  rw [obind]
  refine Eq.trans (put_step (k + 10) 1 n 12 _ [⟨20, 12, 0⟩] 0 (by decide) (by decide) 20 12 0 rfl (by decide) (by decide) (by decide) 1048576 4096 1 rfl rfl rfl (by decide)) ?_
  have hu0 : 0 ≤ n % 4294967296 := by omega
  have hu1 : n % 4294967296 < 4294967296 := by omega
  generalize n % 4294967296 = u at hu0 hu1
  rw [or_zero _ (by omega) (by omega)]
  have e : (u / 1 % 4096 * 1048576) = p1 u := by unfold p1; omega
  rw [e]
  have hp : 0 ≤ p1 u ∧ p1 u < 4294967296 := by rw [← e]; omega
  exact put_end (k + 3) 1 n 12 _ [⟨20, 12, 0⟩] (by decide) hp.1 hp.2

theorem put2 (k : Nat) (n : Int) : imm_Put.f (k + 11) 2 n = some (putR 2 n) := by
  have eR : putR 2 n = if getN 2 (p2 (n % 4294967296)) = n then (p2 (n % 4294967296), true) else (0, false) := by
    unfold putR
    rw [putN_2]
    by_cases h : getN 2 (p2 (n % 4294967296)) = n
    · rw [if_pos h, if_pos ⟨by decide, by decide, h⟩]
    · rw [if_neg h, if_neg (fun hh => h hh.2.2)]
  rw [eR]
  unfold imm_Put.f imm_pieces.f
  rw [if_neg (show ¬((2 : Int) = 1) by decide)]
  rw [if_pos (show (2 : Int) = 2 from rfl)]
  rw [obind]
  refine Eq.trans (put_step (k + 10) 2 n 12 _ [⟨25, 7, 5⟩, ⟨7, 5, 0⟩] 0 (by decide) (by decide) 25 7 5 rfl (by decide) (by decide) (by decide) 33554432 128 32 rfl rfl rfl (by decide)) ?_
  refine Eq.trans (put_step (k + 9) 2 n 12 _ [⟨25, 7, 5⟩, ⟨7, 5, 0⟩] 1 (by decide) (by decide) 7 5 0 rfl (by decide) (by decide) (by decide) 128 32 1 rfl rfl rfl (by decide)) ?_
  have hu0 : 0 ≤ n % 4294967296 := by omega
  have hu1 : n % 4294967296 < 4294967296 := by omega
  generalize n % 4294967296 = u at hu0 hu1
  rw [or_zero _ (by omega) (by omega)]
  rw [or_add 12 _ _ (by omega) (by omega) (by omega) (by omega) (by omega) (by omega)]
  have e : (u / 32 % 128 * 33554432) + (u / 1 % 32 * 128) = p2 u := by unfold p2; omega
  rw [e]
  have hp : 0 ≤ p2 u ∧ p2 u < 4294967296 := by rw [← e]; omega
  exact put_end (k + 2) 2 n 12 _ [⟨25, 7, 5⟩, ⟨7, 5, 0⟩] (by decide) hp.1 hp.2

theorem put3 (k : Nat) (n : Int) : imm_Put.f (k + 11) 3 n = some (putR 3 n) := by
  have eR : putR 3 n = if getN 3 (p3 (n % 4294967296)) = n then (p3 (n % 4294967296), true) else (0, false) := by
    unfold putR
    rw [putN_3]
    by_cases h : getN 3 (p3 (n % 4294967296)) = n
    · rw [if_pos h, if_pos ⟨by decide, by decide, h⟩]
    · rw [if_neg h, if_neg (fun hh => h hh.2.2)]
  rw [eR]
  unfold imm_Put.f imm_pieces.f
  rw [if_neg (show ¬((3 : Int) = 1) by decide)]
  rw [if_neg (show ¬((3 : Int) = 2) by decide)]
  rw [if_pos (show (3 : Int) = 3 from rfl)]
  rw [obind]
  refine Eq.trans (put_step (k + 10) 3 n 13 _ [⟨31, 1, 12⟩, ⟨7, 1, 11⟩, ⟨25, 6, 5⟩, ⟨8, 4, 1⟩] 0 (by decide) (by decide) 31 1 12 rfl (by decide) (by decide) (by decide) 2147483648 2 4096 rfl rfl rfl (by decide)) ?_
  refine Eq.trans (put_step (k + 9) 3 n 13 _ [⟨31, 1, 12⟩, ⟨7, 1, 11⟩, ⟨25, 6, 5⟩, ⟨8, 4, 1⟩] 1 (by decide) (by decide) 7 1 11 rfl (by decide) (by decide) (by decide) 128 2 2048 rfl rfl rfl (by decide)) ?_
  refine Eq.trans (put_step (k + 8) 3 n 13 _ [⟨31, 1, 12⟩, ⟨7, 1, 11⟩, ⟨25, 6, 5⟩, ⟨8, 4, 1⟩] 2 (by decide) (by decide) 25 6 5 rfl (by decide) (by decide) (by decide) 33554432 64 32 rfl rfl rfl (by decide)) ?_
  refine Eq.trans (put_step (k + 7) 3 n 13 _ [⟨31, 1, 12⟩, ⟨7, 1, 11⟩, ⟨25, 6, 5⟩, ⟨8, 4, 1⟩] 3 (by decide) (by decide) 8 4 1 rfl (by decide) (by decide) (by decide) 256 16 2 rfl rfl rfl (by decide)) ?_
  have hu0 : 0 ≤ n % 4294967296 := by omega
  have hu1 : n % 4294967296 < 4294967296 := by omega
  generalize n % 4294967296 = u at hu0 hu1
  rw [or_zero _ (by omega) (by omega)]
  rw [or_swap (u / 4096 % 2 * 2147483648) (u / 2048 % 2 * 128) (u / 32 % 64 * 33554432) (by omega) (by omega) (by omega) (by omega) (by omega) (by omega)]
  rw [or_add 31 (u / 4096 % 2 * 2147483648) (u / 32 % 64 * 33554432) (by omega) (by omega) (by omega) (by omega) (by omega) (by omega)]
  rw [or_swap _ (u / 2048 % 2 * 128) (u / 2 % 16 * 256) (by omega) (by omega) (by omega) (by omega) (by omega) (by omega)]
  rw [or_add 12 _ (u / 2 % 16 * 256) (by omega) (by omega) (by omega) (by omega) (by omega) (by omega)]
  rw [or_add 8 _ (u / 2048 % 2 * 128) (by omega) (by omega) (by omega) (by omega) (by omega) (by omega)]
  have e : (u / 4096 % 2 * 2147483648) + (u / 32 % 64 * 33554432) + (u / 2 % 16 * 256) + (u / 2048 % 2 * 128) = p3 u := by unfold p3; omega
  rw [e]
  have hp : 0 ≤ p3 u ∧ p3 u < 4294967296 := by rw [← e]; omega
  exact put_end (k + 0) 3 n 13 _ [⟨31, 1, 12⟩, ⟨7, 1, 11⟩, ⟨25, 6, 5⟩, ⟨8, 4, 1⟩] (by decide) hp.1 hp.2

theorem put4 (k : Nat) (n : Int) : imm_Put.f (k + 11) 4 n = some (putR 4 n) := by
  have eR : putR 4 n = if getN 4 (p4 (n % 4294967296)) = n then (p4 (n % 4294967296), true) else (0, false) := by
    unfold putR
    rw [putN_4]
    by_cases h : getN 4 (p4 (n % 4294967296)) = n
    · rw [if_pos h, if_pos ⟨by decide, by decide, h⟩]
    · rw [if_neg h, if_neg (fun hh => h hh.2.2)]
  rw [eR]
  unfold imm_Put.f imm_pieces.f
  rw [if_neg (show ¬((4 : Int) = 1) by decide)]
  rw [if_neg (show ¬((4 : Int) = 2) by decide)]
  rw [if_neg (show ¬((4 : Int) = 3) by decide)]
  rw [if_pos (show (4 : Int) = 4 from rfl)]
  rw [obind]
  refine Eq.trans (put_step (k + 10) 4 n 32 _ [⟨12, 20, 12⟩] 0 (by decide) (by decide) 12 20 12 rfl (by decide) (by decide) (by decide) 4096 1048576 4096 rfl rfl rfl (by decide)) ?_
  have hu0 : 0 ≤ n % 4294967296 := by omega
  have hu1 : n % 4294967296 < 4294967296 := by omega
  generalize n % 4294967296 = u at hu0 hu1
  rw [or_zero _ (by omega) (by omega)]
  have e : (u / 4096 % 1048576 * 4096) = p4 u := by unfold p4; omega
  rw [e]
  have hp : 0 ≤ p4 u ∧ p4 u < 4294967296 := by rw [← e]; omega
  exact put_end (k + 3) 4 n 32 _ [⟨12, 20, 12⟩] (by decide) hp.1 hp.2

theorem put5 (k : Nat) (n : Int) : imm_Put.f (k + 11) 5 n = some (putR 5 n) := by
  have eR : putR 5 n = if getN 5 (p5 (n % 4294967296)) = n then (p5 (n % 4294967296), true) else (0, false) := by
    unfold putR
    rw [putN_5]
    by_cases h : getN 5 (p5 (n % 4294967296)) = n
    · rw [if_pos h, if_pos ⟨by decide, by decide, h⟩]
    · rw [if_neg h, if_neg (fun hh => h hh.2.2)]
  rw [eR]
  unfold imm_Put.f imm_pieces.f
  rw [if_neg (show ¬((5 : Int) = 1) by decide)]
  rw [if_neg (show ¬((5 : Int) = 2) by decide)]
  rw [if_neg (show ¬((5 : Int) = 3) by decide)]
  rw [if_neg (show ¬((5 : Int) = 4) by decide)]
  rw [if_pos (show (5 : Int) = 5 from rfl)]
  rw [obind]
  refine Eq.trans (put_step (k + 10) 5 n 21 _ [⟨31, 1, 20⟩, ⟨12, 8, 12⟩, ⟨20, 1, 11⟩, ⟨21, 10, 1⟩] 0 (by decide) (by decide) 31 1 20 rfl (by decide) (by decide) (by decide) 2147483648 2 1048576 rfl rfl rfl (by decide)) ?_
  refine Eq.trans (put_step (k + 9) 5 n 21 _ [⟨31, 1, 20⟩, ⟨12, 8, 12⟩, ⟨20, 1, 11⟩, ⟨21, 10, 1⟩] 1 (by decide) (by decide) 12 8 12 rfl (by decide) (by decide) (by decide) 4096 256 4096 rfl rfl rfl (by decide)) ?_
  refine Eq.trans (put_step (k + 8) 5 n 21 _ [⟨31, 1, 20⟩, ⟨12, 8, 12⟩, ⟨20, 1, 11⟩, ⟨21, 10, 1⟩] 2 (by decide) (by decide) 20 1 11 rfl (by decide) (by decide) (by decide) 1048576 2 2048 rfl rfl rfl (by decide)) ?_
  refine Eq.trans (put_step (k + 7) 5 n 21 _ [⟨31, 1, 20⟩, ⟨12, 8, 12⟩, ⟨20, 1, 11⟩, ⟨21, 10, 1⟩] 3 (by decide) (by decide) 21 10 1 rfl (by decide) (by decide) (by decide) 2097152 1024 2 rfl rfl rfl (by decide)) ?_
  have hu0 : 0 ≤ n % 4294967296 := by omega
  have hu1 : n % 4294967296 < 4294967296 := by omega
  generalize n % 4294967296 = u at hu0 hu1
  rw [or_zero _ (by omega) (by omega)]
  have hr := or_range (u / 1048576 % 2 * 2147483648) (u / 4096 % 256 * 4096) (by omega) (by omega) (by omega) (by omega)
  rw [or_swap _ (u / 2048 % 2 * 1048576) (u / 2 % 1024 * 2097152) hr.1 hr.2 (by omega) (by omega) (by omega) (by omega)]
  rw [or_swap (u / 1048576 % 2 * 2147483648) (u / 4096 % 256 * 4096) (u / 2 % 1024 * 2097152) (by omega) (by omega) (by omega) (by omega) (by omega) (by omega)]
  rw [or_add 31 (u / 1048576 % 2 * 2147483648) (u / 2 % 1024 * 2097152) (by omega) (by omega) (by omega) (by omega) (by omega) (by omega)]
  rw [or_swap _ (u / 4096 % 256 * 4096) (u / 2048 % 2 * 1048576) (by omega) (by omega) (by omega) (by omega) (by omega) (by omega)]
  rw [or_add 21 _ (u / 2048 % 2 * 1048576) (by omega) (by omega) (by omega) (by omega) (by omega) (by omega)]
  rw [or_add 20 _ (u / 4096 % 256 * 4096) (by omega) (by omega) (by omega) (by omega) (by omega) (by omega)]
  have e : (u / 1048576 % 2 * 2147483648) + (u / 2 % 1024 * 2097152) + (u / 2048 % 2 * 1048576) + (u / 4096 % 256 * 4096) = p5 u := by unfold p5; omega
  rw [e]
  have hp : 0 ≤ p5 u ∧ p5 u < 4294967296 := by rw [← e]; omega
  exact put_end (k + 0) 5 n 21 _ [⟨31, 1, 20⟩, ⟨12, 8, 12⟩, ⟨20, 1, 11⟩, ⟨21, 10, 1⟩] (by decide) hp.1 hp.2

theorem put_none (k : Nat) (form n : Int) (hf : form < 1 ∨ 5 < form) : imm_Put.f (k + 11) form n = some (putR form n) := by
  have e : putR form n = (0, false) := by unfold putR; rw [if_neg (by omega)]
  rw [e]
  unfold imm_Put.f
  rw [pieces_none form hf, obind]
  simp only [imm_Put.l0]
  rw [if_neg (by decide), if_pos trivial]

theorem put_is (k : Nat) (form n : Int) : imm_Put.f (k + 11) form n = some (putR form n) := by
  by_cases h : form < 1 ∨ 5 < form
  · exact put_none k form n h
  · have : form = 1 ∨ form = 2 ∨ form = 3 ∨ form = 4 ∨ form = 5 := by omega
    rcases this with rfl | rfl | rfl | rfl | rfl
    · exact put1 k n
    · exact put2 k n
    · exact put3 k n
    · exact put4 k n
    · exact put5 k n

theorem wrap_u64 (b : Nat) (hb : b ≤ 31) : IntKind.u64.wrap (b : Int) = b := by
  have e : IntKind.u64.wrap (b : Int) = (b : Int) % 18446744073709551616 := by simp [IntKind.wrap, IntKind.bits, IntKind.signed]
  rw [e]; omega

theorem bit_is (w : Int) (b : Nat) (hb : b ≤ 31) (hw0 : 0 ≤ w) : Int.tmod (shr .u32 w (IntKind.u64.wrap (b : Int))) 2 = w / 2 ^ b % 2 := by
  rw [wrap_u64 b hb, shrC w b (by omega)]
  exact Int.tmod_eq_emod_of_nonneg (Int.ediv_nonneg hw0 (Int.le_of_lt (Int.pow_pos (by decide))))

theorem rget_first (k : Nat) (w : Int) (l : List Int) (hl : 0 < l.length) (b : Nat) (hb : b ≤ 31) (hp : l.getD 0 0 = b) (hw0 : 0 ≤ w) :
    pintleref02_Get.l0 (k + 1) w l 0 0 = pintleref02_Get.l0 k w l (-(w / 2 ^ b % 2)) ((1 : Nat) : Int) := by
  have e1 : rd l 0 = b := hp
  simp only [pintleref02_Get.l0, e1]
  rw [if_pos (by omega), if_pos (by decide), if_pos (by omega), if_pos (by rw [wrap_u64 b hb]; omega)]
  rw [bit_is w b hb hw0]
  have hx : 0 ≤ w / 2 ^ b % 2 ∧ w / 2 ^ b % 2 ≤ 1 := by omega
  generalize w / 2 ^ b % 2 = x at hx
  have e3 : wrap64 (wrap64 (2 * 0) + wrap64 (-wrap64 x)) = -x := by unfold wrap64; omega
  have e4 : wrap64 (0 + 1) = ((1 : Nat) : Int) := by unfold wrap64; omega
  simp only [if_true]
  rw [e3, e4]

theorem rget_bit (k : Nat) (w n : Int) (l : List Int) (i : Nat) (hi : i < l.length) (h0 : 0 < i) (hl : l.length ≤ 32) (b : Nat) (hb : b ≤ 31) (hp : l.getD i 0 = b) (hw0 : 0 ≤ w) (hn0 : -1125899906842624 ≤ n) (hn1 : n ≤ 1125899906842624) :
    pintleref02_Get.l0 (k + 1) w l n i = pintleref02_Get.l0 k w l (2 * n + w / 2 ^ b % 2) ((i + 1 : Nat) : Int) := by
  have e1 : rd l i = b := by simpa [rd] using hp
  simp only [pintleref02_Get.l0, e1]
  rw [if_pos (by omega), if_pos (by omega), if_pos (by omega), if_pos (by rw [wrap_u64 b hb]; omega)]
  rw [bit_is w b hb hw0]
  have hx : 0 ≤ w / 2 ^ b % 2 ∧ w / 2 ^ b % 2 ≤ 1 := by omega
  generalize w / 2 ^ b % 2 = x at hx
  have e3 : wrap64 (wrap64 (2 * n) + wrap64 x) = 2 * n + x := by unfold wrap64; omega
  have e4 : wrap64 ((i : Int) + 1) = ((i + 1 : Nat) : Int) := by unfold wrap64; omega
  rw [if_neg (by omega), e3, e4]

theorem rget_none (k : Nat) (w n : Int) (l : List Int) (i : Nat) (hi : i < l.length) (h0 : 0 < i) (hl : l.length ≤ 32) (hp : l.getD i 0 = -1) (hn0 : -1125899906842624 ≤ n) (hn1 : n ≤ 1125899906842624) :
    pintleref02_Get.l0 (k + 1) w l n i = pintleref02_Get.l0 k w l (2 * n) ((i + 1 : Nat) : Int) := by
  have e1 : rd l i = -1 := by simpa [rd] using hp
  simp only [pintleref02_Get.l0, e1]
  rw [if_pos (by omega), if_pos (by omega), if_neg (by omega)]
  have e3 : wrap64 (wrap64 (2 * n) + 0) = 2 * n := by unfold wrap64; omega
  have e4 : wrap64 ((i : Int) + 1) = ((i + 1 : Nat) : Int) := by unfold wrap64; omega
  rw [if_neg (by omega), e3, e4]

theorem rget_end (k : Nat) (w n : Int) (l : List Int) (hn0 : -2147483648 ≤ n) (hn1 : n ≤ 2147483647) :
    pintleref02_Get.l0 (k + 1) w l n (l.length : Nat) = some n := by
  simp only [pintleref02_Get.l0]
  rw [if_neg (by omega)]
  have e3 : wrap32 n = n := by unfold wrap32; omega
  rw [e3]

theorem two_pow_le (B : Nat) (h : B ≤ 50) : (2 : Int) ^ B ≤ 1125899906842624 := by
  have := Int.ofNat_le.mpr (Nat.pow_le_pow_right (n := 2) (by decide) h)
  rw [Int.natCast_pow, Int.natCast_pow] at this
  exact this

theorem mod_split (w : Int) (lo m : Nat) (hw0 : 0 ≤ w) : w / 2 ^ lo % 2 ^ (m + 1) = w / 2 ^ (lo + m) % 2 * 2 ^ m + w / 2 ^ lo % 2 ^ m := by
  obtain ⟨a, rfl⟩ := Int.eq_ofNat_of_zero_le hw0
  have h := Nat.mod_pow_succ (b := 2) (k := m) (x := a / 2 ^ lo)
  rw [Nat.div_div_eq_div_mul, ← Nat.pow_add] at h
  have h2 := congrArg (fun n : Nat => (n : Int)) h
  simp only [Int.natCast_add, Int.natCast_mul, Int.natCast_emod, Int.natCast_ediv, Int.natCast_pow] at h2
  rw [show ((2 : Nat) : Int) = 2 from rfl] at h2
  rw [h2, Int.mul_comm]
  exact Int.add_comm _ _

/-- A run of bits, one below the other. -/
theorem rget_run (w : Int) (hw0 : 0 ≤ w) (l : List Int) (hl : l.length ≤ 32) (m : Nat) : ∀ (k lo i B : Nat) (n : Int), 0 < i → i + m ≤ l.length → lo + m ≤ 32 → (∀ j, j < m → l.getD (i + j) 0 = ((lo + (m - 1 - j) : Nat) : Int)) → -(2 ^ B) ≤ n → n < 2 ^ B → B + m ≤ 50 →
    pintleref02_Get.l0 (k + m) w l n i = pintleref02_Get.l0 k w l (n * 2 ^ m + w / 2 ^ lo % 2 ^ m) ((i + m : Nat) : Int) := by
  induction m with
  | zero =>
    intro k lo i B n _ _ _ _ _ _ _
    have : n * 2 ^ 0 + w / 2 ^ lo % 2 ^ 0 = n := by rw [Int.pow_zero, Int.emod_one]; omega
    rw [this]; rfl
  | succ m ih =>
    intro k lo i B n h0 hi hlo hp hn0 hn1 hB
    have hpB := two_pow_le B (by omega)
    have s := rget_bit (k + m) w n l i (by omega) h0 hl (lo + m) (by omega) (by have := hp 0 (by omega); simpa using this) hw0 (by omega) (by omega)
    have e2 : (2 : Int) ^ (B + 1) = 2 ^ B * 2 := Int.pow_succ _ _
    have hx : 0 ≤ w / 2 ^ (lo + m) % 2 ∧ w / 2 ^ (lo + m) % 2 ≤ 1 := by omega
    have r := ih k lo (i + 1) (B + 1) (2 * n + w / 2 ^ (lo + m) % 2) (by omega) (by omega) (by omega) (fun j hj => by
      have := hp (j + 1) (by omega)
      rw [show i + 1 + j = i + (j + 1) from by omega, this]
      congr 1; omega) (by rw [e2]; omega) (by rw [e2]; omega) (by omega)
    rw [show k + (m + 1) = k + m + 1 from rfl, s, r, mod_split w lo m hw0]
    rw [show i + 1 + m = i + (m + 1) from by omega]
    congr 1
    rw [Int.pow_succ, Int.add_mul, Int.mul_comm 2 n, Int.mul_assoc n 2, Int.mul_comm 2 (2 ^ m)]
    omega

/-- So many noughts. -/
theorem rget_noughts (w : Int) (l : List Int) (hl : l.length ≤ 32) (m : Nat) : ∀ (k i B : Nat) (n : Int), 0 < i → i + m ≤ l.length → (∀ j, j < m → l.getD (i + j) 0 = -1) → -(2 ^ B) ≤ n → n < 2 ^ B → B + m ≤ 50 →
    pintleref02_Get.l0 (k + m) w l n i = pintleref02_Get.l0 k w l (n * 2 ^ m) ((i + m : Nat) : Int) := by
  induction m with
  | zero =>
    intro k i B n _ _ _ _ _ _
    rw [Int.pow_zero, Int.mul_one]; rfl
  | succ m ih =>
    intro k i B n h0 hi hp hn0 hn1 hB
    have hpB := two_pow_le B (by omega)
    have s := rget_none (k + m) w n l i (by omega) h0 hl (by have := hp 0 (by omega); simpa using this) (by omega) (by omega)
    have e2 : (2 : Int) ^ (B + 1) = 2 ^ B * 2 := Int.pow_succ _ _
    have r := ih k (i + 1) (B + 1) (2 * n) (by omega) (by omega) (fun j hj => by
      have := hp (j + 1) (by omega)
      rw [show i + 1 + j = i + (j + 1) from by omega, this]) (by rw [e2]; omega) (by rw [e2]; omega) (by omega)
    rw [show k + (m + 1) = k + m + 1 from rfl, s, r]
    rw [show i + 1 + m = i + (m + 1) from by omega, Int.pow_succ, Int.mul_comm 2 n, Int.mul_assoc, Int.mul_comm 2]

theorem rget_firstL (k : Nat) (w : Int) (l : List Int) (hl : 0 < l.length) (b : Nat) (hb : b ≤ 31) (hp : l.getD 0 0 = b) (F : Int) (eF : (2 : Int) ^ b = F) (hw0 : 0 ≤ w) :
    pintleref02_Get.l0 (k + 1) w l 0 0 = pintleref02_Get.l0 k w l (-(w / F % 2)) ((1 : Nat) : Int) := by
  subst eF; exact rget_first k w l hl b hb hp hw0

theorem rget_runL (w : Int) (hw0 : 0 ≤ w) (l : List Int) (hl : l.length ≤ 32) (m : Nat) (k lo i B : Nat) (n F M : Int) (eF : (2 : Int) ^ lo = F) (eM : (2 : Int) ^ m = M) (h0 : 0 < i) (hi : i + m ≤ l.length) (hlo : lo + m ≤ 32) (hp : ∀ j, j < m → l.getD (i + j) 0 = ((lo + (m - 1 - j) : Nat) : Int)) (hn0 : -(2 ^ B) ≤ n) (hn1 : n < 2 ^ B) (hB : B + m ≤ 50) :
    pintleref02_Get.l0 (k + m) w l n i = pintleref02_Get.l0 k w l (n * M + w / F % M) ((i + m : Nat) : Int) := by
  subst eF eM; exact rget_run w hw0 l hl m k lo i B n h0 hi hlo hp hn0 hn1 hB

theorem rget_noughtsL (w : Int) (l : List Int) (hl : l.length ≤ 32) (m : Nat) (k i B : Nat) (n M : Int) (eM : (2 : Int) ^ m = M) (h0 : 0 < i) (hi : i + m ≤ l.length) (hp : ∀ j, j < m → l.getD (i + j) 0 = -1) (hn0 : -(2 ^ B) ≤ n) (hn1 : n < 2 ^ B) (hB : B + m ≤ 50) :
    pintleref02_Get.l0 (k + m) w l n i = pintleref02_Get.l0 k w l (n * M) ((i + m : Nat) : Int) := by
  subst eM; exact rget_noughts w l hl m k i B n h0 hi hp hn0 hn1 hB

theorem rget1 (k : Nat) (w : Int) (hw0 : 0 ≤ w) (hw1 : w < 4294967296) : pintleref02_Get.f (k + 33) 1 w = some (getN 1 w) := by
  rw [getN_1]
  unfold pintleref02_Get.f pintleref02_Bits.f
  rw [if_pos (show (1 : Int) = 1 from rfl)]
  rw [obind]
  refine Eq.trans (rget_firstL (k + 32) w [31, 30, 29, 28, 27, 26, 25, 24, 23, 22, 21, 20] (by decide) 31 (by decide) rfl 2147483648 rfl hw0) ?_
  refine Eq.trans (rget_runL w hw0 [31, 30, 29, 28, 27, 26, 25, 24, 23, 22, 21, 20] (by decide) 11 (k + 21) 20 1 0 _ 1048576 2048 rfl rfl (by decide) (by decide) (by decide) (by decide) (by omega) (by omega) (by decide)) ?_
  refine Eq.trans (rget_end (k + 20) w _ [31, 30, 29, 28, 27, 26, 25, 24, 23, 22, 21, 20] (by omega) (by omega)) ?_
  congr 1
  unfold g1
  have hs : w / 2147483648 = w / 33554432 / 64 := by omega
  (repeat' split) <;> omega

theorem rget2 (k : Nat) (w : Int) (hw0 : 0 ≤ w) (hw1 : w < 4294967296) : pintleref02_Get.f (k + 33) 2 w = some (getN 2 w) := by
  rw [getN_2]
  unfold pintleref02_Get.f pintleref02_Bits.f
  rw [if_neg (show ¬((2 : Int) = 1) by decide)]
  rw [if_pos (show (2 : Int) = 2 from rfl)]
  rw [obind]
  refine Eq.trans (rget_firstL (k + 32) w [31, 30, 29, 28, 27, 26, 25, 11, 10, 9, 8, 7] (by decide) 31 (by decide) rfl 2147483648 rfl hw0) ?_
  refine Eq.trans (rget_runL w hw0 [31, 30, 29, 28, 27, 26, 25, 11, 10, 9, 8, 7] (by decide) 6 (k + 26) 25 1 0 _ 33554432 64 rfl rfl (by decide) (by decide) (by decide) (by decide) (by omega) (by omega) (by decide)) ?_
  refine Eq.trans (rget_runL w hw0 [31, 30, 29, 28, 27, 26, 25, 11, 10, 9, 8, 7] (by decide) 5 (k + 21) 7 7 6 _ 128 32 rfl rfl (by decide) (by decide) (by decide) (by decide) (by omega) (by omega) (by decide)) ?_
  refine Eq.trans (rget_end (k + 20) w _ [31, 30, 29, 28, 27, 26, 25, 11, 10, 9, 8, 7] (by omega) (by omega)) ?_
  congr 1
  unfold g2
  have hs : w / 2147483648 = w / 33554432 / 64 := by omega
  (repeat' split) <;> omega

theorem rget3 (k : Nat) (w : Int) (hw0 : 0 ≤ w) (hw1 : w < 4294967296) : pintleref02_Get.f (k + 33) 3 w = some (getN 3 w) := by
  rw [getN_3]
  unfold pintleref02_Get.f pintleref02_Bits.f
  rw [if_neg (show ¬((3 : Int) = 1) by decide)]
  rw [if_neg (show ¬((3 : Int) = 2) by decide)]
  rw [if_pos (show (3 : Int) = 3 from rfl)]
  rw [obind]
  refine Eq.trans (rget_firstL (k + 32) w [31, 7, 30, 29, 28, 27, 26, 25, 11, 10, 9, 8, -1] (by decide) 31 (by decide) rfl 2147483648 rfl hw0) ?_
  refine Eq.trans (rget_runL w hw0 [31, 7, 30, 29, 28, 27, 26, 25, 11, 10, 9, 8, -1] (by decide) 1 (k + 31) 7 1 0 _ 128 2 rfl rfl (by decide) (by decide) (by decide) (by decide) (by omega) (by omega) (by decide)) ?_
  refine Eq.trans (rget_runL w hw0 [31, 7, 30, 29, 28, 27, 26, 25, 11, 10, 9, 8, -1] (by decide) 6 (k + 25) 25 2 1 _ 33554432 64 rfl rfl (by decide) (by decide) (by decide) (by decide) (by omega) (by omega) (by decide)) ?_
  refine Eq.trans (rget_runL w hw0 [31, 7, 30, 29, 28, 27, 26, 25, 11, 10, 9, 8, -1] (by decide) 4 (k + 21) 8 8 7 _ 256 16 rfl rfl (by decide) (by decide) (by decide) (by decide) (by omega) (by omega) (by decide)) ?_
  refine Eq.trans (rget_noughtsL w [31, 7, 30, 29, 28, 27, 26, 25, 11, 10, 9, 8, -1] (by decide) 1 (k + 20) 12 11 _ 2 rfl (by decide) (by decide) (by decide) (by omega) (by omega) (by decide)) ?_
  refine Eq.trans (rget_end (k + 19) w _ [31, 7, 30, 29, 28, 27, 26, 25, 11, 10, 9, 8, -1] (by omega) (by omega)) ?_
  congr 1
  unfold g3
  have hs : w / 2147483648 = w / 33554432 / 64 := by omega
  (repeat' split) <;> omega

theorem rget4 (k : Nat) (w : Int) (hw0 : 0 ≤ w) (hw1 : w < 4294967296) : pintleref02_Get.f (k + 33) 4 w = some (getN 4 w) := by
  rw [getN_4]
  unfold pintleref02_Get.f pintleref02_Bits.f
  rw [if_neg (show ¬((4 : Int) = 1) by decide)]
  rw [if_neg (show ¬((4 : Int) = 2) by decide)]
  rw [if_neg (show ¬((4 : Int) = 3) by decide)]
  rw [if_pos (show (4 : Int) = 4 from rfl)]
  rw [obind]
  refine Eq.trans (rget_firstL (k + 32) w [31, 30, 29, 28, 27, 26, 25, 24, 23, 22, 21, 20, 19, 18, 17, 16, 15, 14, 13, 12, -1, -1, -1, -1, -1, -1, -1, -1, -1, -1, -1, -1] (by decide) 31 (by decide) rfl 2147483648 rfl hw0) ?_
  refine Eq.trans (rget_runL w hw0 [31, 30, 29, 28, 27, 26, 25, 24, 23, 22, 21, 20, 19, 18, 17, 16, 15, 14, 13, 12, -1, -1, -1, -1, -1, -1, -1, -1, -1, -1, -1, -1] (by decide) 19 (k + 13) 12 1 0 _ 4096 524288 rfl rfl (by decide) (by decide) (by decide) (by decide) (by omega) (by omega) (by decide)) ?_
  refine Eq.trans (rget_noughtsL w [31, 30, 29, 28, 27, 26, 25, 24, 23, 22, 21, 20, 19, 18, 17, 16, 15, 14, 13, 12, -1, -1, -1, -1, -1, -1, -1, -1, -1, -1, -1, -1] (by decide) 12 (k + 1) 20 19 _ 4096 rfl (by decide) (by decide) (by decide) (by omega) (by omega) (by decide)) ?_
  refine Eq.trans (rget_end (k + 0) w _ [31, 30, 29, 28, 27, 26, 25, 24, 23, 22, 21, 20, 19, 18, 17, 16, 15, 14, 13, 12, -1, -1, -1, -1, -1, -1, -1, -1, -1, -1, -1, -1] (by omega) (by omega)) ?_
  congr 1
  unfold g4
  have hs : w / 2147483648 = w / 33554432 / 64 := by omega
  (repeat' split) <;> omega

theorem rget5 (k : Nat) (w : Int) (hw0 : 0 ≤ w) (hw1 : w < 4294967296) : pintleref02_Get.f (k + 33) 5 w = some (getN 5 w) := by
  rw [getN_5]
  unfold pintleref02_Get.f pintleref02_Bits.f
  rw [if_neg (show ¬((5 : Int) = 1) by decide)]
  rw [if_neg (show ¬((5 : Int) = 2) by decide)]
  rw [if_neg (show ¬((5 : Int) = 3) by decide)]
  rw [if_neg (show ¬((5 : Int) = 4) by decide)]
  rw [if_pos (show (5 : Int) = 5 from rfl)]
  rw [obind]
  refine Eq.trans (rget_firstL (k + 32) w [31, 19, 18, 17, 16, 15, 14, 13, 12, 20, 30, 29, 28, 27, 26, 25, 24, 23, 22, 21, -1] (by decide) 31 (by decide) rfl 2147483648 rfl hw0) ?_
  refine Eq.trans (rget_runL w hw0 [31, 19, 18, 17, 16, 15, 14, 13, 12, 20, 30, 29, 28, 27, 26, 25, 24, 23, 22, 21, -1] (by decide) 8 (k + 24) 12 1 0 _ 4096 256 rfl rfl (by decide) (by decide) (by decide) (by decide) (by omega) (by omega) (by decide)) ?_
  refine Eq.trans (rget_runL w hw0 [31, 19, 18, 17, 16, 15, 14, 13, 12, 20, 30, 29, 28, 27, 26, 25, 24, 23, 22, 21, -1] (by decide) 1 (k + 23) 20 9 8 _ 1048576 2 rfl rfl (by decide) (by decide) (by decide) (by decide) (by omega) (by omega) (by decide)) ?_
  refine Eq.trans (rget_runL w hw0 [31, 19, 18, 17, 16, 15, 14, 13, 12, 20, 30, 29, 28, 27, 26, 25, 24, 23, 22, 21, -1] (by decide) 10 (k + 13) 21 10 9 _ 2097152 1024 rfl rfl (by decide) (by decide) (by decide) (by decide) (by omega) (by omega) (by decide)) ?_
  refine Eq.trans (rget_noughtsL w [31, 19, 18, 17, 16, 15, 14, 13, 12, 20, 30, 29, 28, 27, 26, 25, 24, 23, 22, 21, -1] (by decide) 1 (k + 12) 20 19 _ 2 rfl (by decide) (by decide) (by decide) (by omega) (by omega) (by decide)) ?_
  refine Eq.trans (rget_end (k + 11) w _ [31, 19, 18, 17, 16, 15, 14, 13, 12, 20, 30, 29, 28, 27, 26, 25, 24, 23, 22, 21, -1] (by omega) (by omega)) ?_
  congr 1
  unfold g5
  have hs : w / 2147483648 = w / 33554432 / 64 := by omega
  (repeat' split) <;> omega

theorem bits_none (form : Int) (hf : form < 1 ∨ 5 < form) : pintleref02_Bits.f form = some [] := by
  unfold pintleref02_Bits.f
  rw [if_neg (by omega), if_neg (by omega), if_neg (by omega), if_neg (by omega), if_neg (by omega)]

theorem rget_is (k : Nat) (form w : Int) (hw0 : 0 ≤ w) (hw1 : w < 4294967296) : pintleref02_Get.f (k + 33) form w = some (getN form w) := by
  by_cases h : form < 1 ∨ 5 < form
  · rw [getN_none form w h]
    unfold pintleref02_Get.f
    rw [bits_none form h, obind]
    exact rget_end (k + 32) w 0 [] (by decide) (by decide)
  · have : form = 1 ∨ form = 2 ∨ form = 3 ∨ form = 4 ∨ form = 5 := by omega
    rcases this with rfl | rfl | rfl | rfl | rfl
    · exact rget1 k w hw0 hw1
    · exact rget2 k w hw0 hw1
    · exact rget3 k w hw0 hw1
    · exact rget4 k w hw0 hw1
    · exact rget5 k w hw0 hw1

theorem lives_is (k : Nat) (hk : 20 ≤ k) : pintlelaw02_lives.f k = some true := by
  refine at_rounds (g := fun k => pintlelaw02_lives.f k) (fun k => pintlelaw02_lives.mono k) hk ?_
  show pintlelaw02_lives.f 20 = some true
  unfold pintlelaw02_lives.f imm_Get.f
  have e : putR 3 (-2) = (4261416832, true) := by decide
  have e2 : getN 3 4261416832 = -2 := by decide
  rw [put_is 9 3 (-2), e, obind, if_pos (by decide), if_pos (by decide), get_is 14 3 4261416832 (by decide) (by decide), e2, obind, obind]
  rfl

theorem rput_end (k : Nat) (form n acc : Int) (l : List Int) (hl : l.length ≠ 0) (h0 : 0 ≤ acc) (h1 : acc < 4294967296) :
    pintleref02_Put.l0 (k + 34) form n l acc (l.length : Nat) = some (if getN form acc = n then (acc, true) else (0, false)) := by
  have hg := rget_is k form acc h0 h1
  rw [show k + 34 = k + 33 + 1 from rfl]
  generalize k + 33 = K at hg
  simp only [pintleref02_Put.l0]
  rw [if_neg (by omega), if_neg (by omega), hg, obind]
  split <;> rfl

theorem shl_one (b : Nat) (hb : b ≤ 31) : shl .u32 1 (IntKind.u64.wrap (b : Int)) = 2 ^ b := by
  rw [wrap_u64 b hb]
  unfold shl
  rw [Int.toNat_natCast, Nat.min_eq_left (by simp [IntKind.bits]; omega), IntKind.wrap_u32, Int.one_mul]
  have h2' : 2 ^ b ≤ 2 ^ 31 := Nat.pow_le_pow_right (by decide) (by omega)
  have h2 : (2 : Int) ^ b ≤ 2147483648 := by
    have := Int.ofNat_le.mpr h2'
    rw [Int.natCast_pow, Int.natCast_pow] at this
    exact this
  have h3 : (0 : Int) < 2 ^ b := Int.pow_pos (by decide)
  omega

theorem rput_bit (k : Nat) (form n acc : Int) (l : List Int) (i P : Nat) (hi : i + 1 + P = l.length) (hl : l.length ≤ 32) (b : Nat) (hb : b ≤ 31) (hp : l.getD i 0 = b) (h0 : 0 ≤ acc) (h1 : acc < 4294967296) :
    pintleref02_Put.l0 (k + 1) form n l acc i = pintleref02_Put.l0 k form n l ((acc + (n % 4294967296) / 2 ^ P % 2 * 2 ^ b) % 4294967296) ((i + 1 : Nat) : Int) := by
  have e1 : rd l i = b := by simpa [rd] using hp
  have e2 : wrap64 (wrap64 ((l.length : Int) - 1) - i) = (P : Int) := by unfold wrap64; omega
  have e4 : wrap64 ((i : Int) + 1) = ((i + 1 : Nat) : Int) := by unfold wrap64; omega
  simp only [pintleref02_Put.l0, e1, e2, e4]
  rw [if_pos (by omega), if_pos (by omega), if_pos (by omega), if_pos (by rw [wrap_u64 P (by omega)]; omega), wrap_u64 P (by omega), shrC _ P (by omega), shl_one b hb]
  have hx : (n % 4294967296) / 2 ^ P % 2 = 0 ∨ (n % 4294967296) / 2 ^ P % 2 = 1 := by omega
  rcases hx with hx | hx
  · rw [hx, if_neg (by decide), Int.zero_mul, Int.add_zero, Int.emod_eq_of_lt h0 h1]
  · rw [hx, if_pos rfl, if_pos (by rw [wrap_u64 b hb]; omega), Int.one_mul]

theorem rput_none (k : Nat) (form n acc : Int) (l : List Int) (i : Nat) (hi : i < l.length) (hl : l.length ≤ 32) (hp : l.getD i 0 = -1) :
    pintleref02_Put.l0 (k + 1) form n l acc i = pintleref02_Put.l0 k form n l acc ((i + 1 : Nat) : Int) := by
  have e1 : rd l i = -1 := by simpa [rd] using hp
  have e4 : wrap64 ((i : Int) + 1) = ((i + 1 : Nat) : Int) := by unfold wrap64; omega
  simp only [pintleref02_Put.l0, e1, e4]
  rw [if_pos (by omega), if_pos (by omega), if_neg (by decide)]

theorem rput_run (form n : Int) (l : List Int) (hl : l.length ≤ 32) (m : Nat) : ∀ (k lo i P : Nat) (acc : Int), i + m + P = l.length → lo + m ≤ 32 → (∀ j, j < m → l.getD (i + j) 0 = ((lo + (m - 1 - j) : Nat) : Int)) → 0 ≤ acc → acc < 4294967296 →
    pintleref02_Put.l0 (k + m) form n l acc i = pintleref02_Put.l0 k form n l ((acc + (n % 4294967296) / 2 ^ P % 2 ^ m * 2 ^ lo) % 4294967296) ((i + m : Nat) : Int) := by
  induction m with
  | zero =>
    intro k lo i P acc _ _ _ h0 h1
    rw [Int.pow_zero, Int.emod_one, Int.zero_mul, Int.add_zero, Int.emod_eq_of_lt h0 h1]; rfl
  | succ m ih =>
    intro k lo i P acc hi hlo hp h0 h1
    have s := rput_bit (k + m) form n acc l i (m + P) (by omega) hl (lo + m) (by omega) (by have := hp 0 (by omega); simpa using this) h0 h1
    have r := ih k lo (i + 1) P ((acc + (n % 4294967296) / 2 ^ (m + P) % 2 * 2 ^ (lo + m)) % 4294967296) (by omega) (by omega) (fun j hj => by
      have := hp (j + 1) (by omega)
      rw [show i + 1 + j = i + (j + 1) from by omega, this]
      congr 1; omega) (Int.emod_nonneg _ (by decide)) (Int.emod_lt_of_pos _ (by decide))
    rw [show k + (m + 1) = k + m + 1 from rfl, s, r, mod_split (n % 4294967296) P m (by omega), Nat.add_comm m P]
    rw [show i + 1 + m = i + (m + 1) from by omega]
    have e : (n % 4294967296) / 2 ^ (P + m) % 2 * 2 ^ (lo + m) = (n % 4294967296) / 2 ^ (P + m) % 2 * 2 ^ m * 2 ^ lo := by
      rw [show (2 : Int) ^ (lo + m) = 2 ^ m * 2 ^ lo from by rw [Int.pow_add, Int.mul_comm], Int.mul_assoc]
    rw [e, Int.add_mul, Int.emod_add_emod, Int.add_assoc]

theorem rput_noughts (form n acc : Int) (l : List Int) (hl : l.length ≤ 32) (m : Nat) : ∀ (k i : Nat), i + m ≤ l.length → (∀ j, j < m → l.getD (i + j) 0 = -1) →
    pintleref02_Put.l0 (k + m) form n l acc i = pintleref02_Put.l0 k form n l acc ((i + m : Nat) : Int) := by
  induction m with
  | zero => intro k i _ _; rfl
  | succ m ih =>
    intro k i hi hp
    have s := rput_none (k + m) form n acc l i (by omega) hl (by have := hp 0 (by omega); simpa using this)
    have r := ih k (i + 1) (by omega) (fun j hj => by
      have := hp (j + 1) (by omega)
      rw [show i + 1 + j = i + (j + 1) from by omega, this])
    rw [show k + (m + 1) = k + m + 1 from rfl, s, r, show i + 1 + m = i + (m + 1) from by omega]

theorem rput_runL (form n : Int) (l : List Int) (hl : l.length ≤ 32) (m k lo i P : Nat) (acc Q M L : Int) (eQ : (2 : Int) ^ P = Q) (eM : (2 : Int) ^ m = M) (eL : (2 : Int) ^ lo = L) (hi : i + m + P = l.length) (hlo : lo + m ≤ 32) (hp : ∀ j, j < m → l.getD (i + j) 0 = ((lo + (m - 1 - j) : Nat) : Int)) (h0 : 0 ≤ acc) (h1 : acc < 4294967296) :
    pintleref02_Put.l0 (k + m) form n l acc i = pintleref02_Put.l0 k form n l ((acc + (n % 4294967296) / Q % M * L) % 4294967296) ((i + m : Nat) : Int) := by
  subst eQ eM eL; exact rput_run form n l hl m k lo i P acc hi hlo hp h0 h1

theorem rput1 (k : Nat) (n : Int) : pintleref02_Put.f (k + 66) 1 n = some (putR 1 n) := by
  have eR : putR 1 n = if getN 1 (p1 (n % 4294967296)) = n then (p1 (n % 4294967296), true) else (0, false) := by
    unfold putR
    rw [putN_1]
    by_cases h : getN 1 (p1 (n % 4294967296)) = n
    · rw [if_pos h, if_pos ⟨by decide, by decide, h⟩]
    · rw [if_neg h, if_neg (fun hh => h hh.2.2)]
  rw [eR]
  unfold pintleref02_Put.f pintleref02_Bits.f
  rw [if_pos (show (1 : Int) = 1 from rfl)]
  rw [obind]
  refine Eq.trans (rput_runL 1 n [31, 30, 29, 28, 27, 26, 25, 24, 23, 22, 21, 20] (by decide) 12 (k + 54) 20 0 0 _ 1 4096 1048576 rfl rfl rfl (by decide) (by decide) (by decide) (by omega) (by omega)) ?_
  have hu0 : 0 ≤ n % 4294967296 := by omega
  have hu1 : n % 4294967296 < 4294967296 := by omega
  generalize n % 4294967296 = u at hu0 hu1
  have e : (0 + u / 1 % 4096 * 1048576) % 4294967296 = p1 u := by unfold p1; omega
  rw [e]
  have hp : 0 ≤ p1 u ∧ p1 u < 4294967296 := by rw [← e]; omega
  exact rput_end (k + 20) 1 n _ [31, 30, 29, 28, 27, 26, 25, 24, 23, 22, 21, 20] (by decide) hp.1 hp.2

theorem rput2 (k : Nat) (n : Int) : pintleref02_Put.f (k + 66) 2 n = some (putR 2 n) := by
  have eR : putR 2 n = if getN 2 (p2 (n % 4294967296)) = n then (p2 (n % 4294967296), true) else (0, false) := by
    unfold putR
    rw [putN_2]
    by_cases h : getN 2 (p2 (n % 4294967296)) = n
    · rw [if_pos h, if_pos ⟨by decide, by decide, h⟩]
    · rw [if_neg h, if_neg (fun hh => h hh.2.2)]
  rw [eR]
  unfold pintleref02_Put.f pintleref02_Bits.f
  rw [if_neg (show ¬((2 : Int) = 1) by decide)]
  rw [if_pos (show (2 : Int) = 2 from rfl)]
  rw [obind]
  refine Eq.trans (rput_runL 2 n [31, 30, 29, 28, 27, 26, 25, 11, 10, 9, 8, 7] (by decide) 7 (k + 59) 25 0 5 _ 32 128 33554432 rfl rfl rfl (by decide) (by decide) (by decide) (by omega) (by omega)) ?_
  refine Eq.trans (rput_runL 2 n [31, 30, 29, 28, 27, 26, 25, 11, 10, 9, 8, 7] (by decide) 5 (k + 54) 7 7 0 _ 1 32 128 rfl rfl rfl (by decide) (by decide) (by decide) (by omega) (by omega)) ?_
  have hu0 : 0 ≤ n % 4294967296 := by omega
  have hu1 : n % 4294967296 < 4294967296 := by omega
  generalize n % 4294967296 = u at hu0 hu1
  have e : ((0 + u / 32 % 128 * 33554432) % 4294967296 + u / 1 % 32 * 128) % 4294967296 = p2 u := by unfold p2; omega
  rw [e]
  have hp : 0 ≤ p2 u ∧ p2 u < 4294967296 := by rw [← e]; omega
  exact rput_end (k + 20) 2 n _ [31, 30, 29, 28, 27, 26, 25, 11, 10, 9, 8, 7] (by decide) hp.1 hp.2

theorem rput3 (k : Nat) (n : Int) : pintleref02_Put.f (k + 66) 3 n = some (putR 3 n) := by
  have eR : putR 3 n = if getN 3 (p3 (n % 4294967296)) = n then (p3 (n % 4294967296), true) else (0, false) := by
    unfold putR
    rw [putN_3]
    by_cases h : getN 3 (p3 (n % 4294967296)) = n
    · rw [if_pos h, if_pos ⟨by decide, by decide, h⟩]
    · rw [if_neg h, if_neg (fun hh => h hh.2.2)]
  rw [eR]
  unfold pintleref02_Put.f pintleref02_Bits.f
  rw [if_neg (show ¬((3 : Int) = 1) by decide)]
  rw [if_neg (show ¬((3 : Int) = 2) by decide)]
  rw [if_pos (show (3 : Int) = 3 from rfl)]
  rw [obind]
  refine Eq.trans (rput_runL 3 n [31, 7, 30, 29, 28, 27, 26, 25, 11, 10, 9, 8, -1] (by decide) 1 (k + 65) 31 0 12 _ 4096 2 2147483648 rfl rfl rfl (by decide) (by decide) (by decide) (by omega) (by omega)) ?_
  refine Eq.trans (rput_runL 3 n [31, 7, 30, 29, 28, 27, 26, 25, 11, 10, 9, 8, -1] (by decide) 1 (k + 64) 7 1 11 _ 2048 2 128 rfl rfl rfl (by decide) (by decide) (by decide) (by omega) (by omega)) ?_
  refine Eq.trans (rput_runL 3 n [31, 7, 30, 29, 28, 27, 26, 25, 11, 10, 9, 8, -1] (by decide) 6 (k + 58) 25 2 5 _ 32 64 33554432 rfl rfl rfl (by decide) (by decide) (by decide) (by omega) (by omega)) ?_
  refine Eq.trans (rput_runL 3 n [31, 7, 30, 29, 28, 27, 26, 25, 11, 10, 9, 8, -1] (by decide) 4 (k + 54) 8 8 1 _ 2 16 256 rfl rfl rfl (by decide) (by decide) (by decide) (by omega) (by omega)) ?_
  refine Eq.trans (rput_noughts 3 n _ [31, 7, 30, 29, 28, 27, 26, 25, 11, 10, 9, 8, -1] (by decide) 1 (k + 53) 12 (by decide) (by decide)) ?_
  have hu0 : 0 ≤ n % 4294967296 := by omega
  have hu1 : n % 4294967296 < 4294967296 := by omega
  generalize n % 4294967296 = u at hu0 hu1
  have e : ((((0 + u / 4096 % 2 * 2147483648) % 4294967296 + u / 2048 % 2 * 128) % 4294967296 + u / 32 % 64 * 33554432) % 4294967296 + u / 2 % 16 * 256) % 4294967296 = p3 u := by unfold p3; omega
  rw [e]
  have hp : 0 ≤ p3 u ∧ p3 u < 4294967296 := by rw [← e]; omega
  exact rput_end (k + 19) 3 n _ [31, 7, 30, 29, 28, 27, 26, 25, 11, 10, 9, 8, -1] (by decide) hp.1 hp.2

theorem rput4 (k : Nat) (n : Int) : pintleref02_Put.f (k + 66) 4 n = some (putR 4 n) := by
  have eR : putR 4 n = if getN 4 (p4 (n % 4294967296)) = n then (p4 (n % 4294967296), true) else (0, false) := by
    unfold putR
    rw [putN_4]
    by_cases h : getN 4 (p4 (n % 4294967296)) = n
    · rw [if_pos h, if_pos ⟨by decide, by decide, h⟩]
    · rw [if_neg h, if_neg (fun hh => h hh.2.2)]
  rw [eR]
  unfold pintleref02_Put.f pintleref02_Bits.f
  rw [if_neg (show ¬((4 : Int) = 1) by decide)]
  rw [if_neg (show ¬((4 : Int) = 2) by decide)]
  rw [if_neg (show ¬((4 : Int) = 3) by decide)]
  rw [if_pos (show (4 : Int) = 4 from rfl)]
  rw [obind]
  refine Eq.trans (rput_runL 4 n [31, 30, 29, 28, 27, 26, 25, 24, 23, 22, 21, 20, 19, 18, 17, 16, 15, 14, 13, 12, -1, -1, -1, -1, -1, -1, -1, -1, -1, -1, -1, -1] (by decide) 20 (k + 46) 12 0 12 _ 4096 1048576 4096 rfl rfl rfl (by decide) (by decide) (by decide) (by omega) (by omega)) ?_
  refine Eq.trans (rput_noughts 4 n _ [31, 30, 29, 28, 27, 26, 25, 24, 23, 22, 21, 20, 19, 18, 17, 16, 15, 14, 13, 12, -1, -1, -1, -1, -1, -1, -1, -1, -1, -1, -1, -1] (by decide) 12 (k + 34) 20 (by decide) (by decide)) ?_
  have hu0 : 0 ≤ n % 4294967296 := by omega
  have hu1 : n % 4294967296 < 4294967296 := by omega
  generalize n % 4294967296 = u at hu0 hu1
  have e : (0 + u / 4096 % 1048576 * 4096) % 4294967296 = p4 u := by unfold p4; omega
  rw [e]
  have hp : 0 ≤ p4 u ∧ p4 u < 4294967296 := by rw [← e]; omega
  exact rput_end (k + 0) 4 n _ [31, 30, 29, 28, 27, 26, 25, 24, 23, 22, 21, 20, 19, 18, 17, 16, 15, 14, 13, 12, -1, -1, -1, -1, -1, -1, -1, -1, -1, -1, -1, -1] (by decide) hp.1 hp.2

theorem rput5 (k : Nat) (n : Int) : pintleref02_Put.f (k + 66) 5 n = some (putR 5 n) := by
  have eR : putR 5 n = if getN 5 (p5 (n % 4294967296)) = n then (p5 (n % 4294967296), true) else (0, false) := by
    unfold putR
    rw [putN_5]
    by_cases h : getN 5 (p5 (n % 4294967296)) = n
    · rw [if_pos h, if_pos ⟨by decide, by decide, h⟩]
    · rw [if_neg h, if_neg (fun hh => h hh.2.2)]
  rw [eR]
  unfold pintleref02_Put.f pintleref02_Bits.f
  rw [if_neg (show ¬((5 : Int) = 1) by decide)]
  rw [if_neg (show ¬((5 : Int) = 2) by decide)]
  rw [if_neg (show ¬((5 : Int) = 3) by decide)]
  rw [if_neg (show ¬((5 : Int) = 4) by decide)]
  rw [if_pos (show (5 : Int) = 5 from rfl)]
  rw [obind]
  refine Eq.trans (rput_runL 5 n [31, 19, 18, 17, 16, 15, 14, 13, 12, 20, 30, 29, 28, 27, 26, 25, 24, 23, 22, 21, -1] (by decide) 1 (k + 65) 31 0 20 _ 1048576 2 2147483648 rfl rfl rfl (by decide) (by decide) (by decide) (by omega) (by omega)) ?_
  refine Eq.trans (rput_runL 5 n [31, 19, 18, 17, 16, 15, 14, 13, 12, 20, 30, 29, 28, 27, 26, 25, 24, 23, 22, 21, -1] (by decide) 8 (k + 57) 12 1 12 _ 4096 256 4096 rfl rfl rfl (by decide) (by decide) (by decide) (by omega) (by omega)) ?_
  refine Eq.trans (rput_runL 5 n [31, 19, 18, 17, 16, 15, 14, 13, 12, 20, 30, 29, 28, 27, 26, 25, 24, 23, 22, 21, -1] (by decide) 1 (k + 56) 20 9 11 _ 2048 2 1048576 rfl rfl rfl (by decide) (by decide) (by decide) (by omega) (by omega)) ?_
  refine Eq.trans (rput_runL 5 n [31, 19, 18, 17, 16, 15, 14, 13, 12, 20, 30, 29, 28, 27, 26, 25, 24, 23, 22, 21, -1] (by decide) 10 (k + 46) 21 10 1 _ 2 1024 2097152 rfl rfl rfl (by decide) (by decide) (by decide) (by omega) (by omega)) ?_
  refine Eq.trans (rput_noughts 5 n _ [31, 19, 18, 17, 16, 15, 14, 13, 12, 20, 30, 29, 28, 27, 26, 25, 24, 23, 22, 21, -1] (by decide) 1 (k + 45) 20 (by decide) (by decide)) ?_
  have hu0 : 0 ≤ n % 4294967296 := by omega
  have hu1 : n % 4294967296 < 4294967296 := by omega
  generalize n % 4294967296 = u at hu0 hu1
  have e : ((((0 + u / 1048576 % 2 * 2147483648) % 4294967296 + u / 4096 % 256 * 4096) % 4294967296 + u / 2048 % 2 * 1048576) % 4294967296 + u / 2 % 1024 * 2097152) % 4294967296 = p5 u := by unfold p5; omega
  rw [e]
  have hp : 0 ≤ p5 u ∧ p5 u < 4294967296 := by rw [← e]; omega
  exact rput_end (k + 11) 5 n _ [31, 19, 18, 17, 16, 15, 14, 13, 12, 20, 30, 29, 28, 27, 26, 25, 24, 23, 22, 21, -1] (by decide) hp.1 hp.2

theorem rput_is (k : Nat) (form n : Int) : pintleref02_Put.f (k + 66) form n = some (putR form n) := by
  by_cases h : form < 1 ∨ 5 < form
  · have e : putR form n = (0, false) := by unfold putR; rw [if_neg (by omega)]
    rw [e]
    unfold pintleref02_Put.f
    rw [bits_none form h, obind, show k + 66 = k + 65 + 1 from rfl]
    generalize k + 65 = K
    simp only [pintleref02_Put.l0]
    rw [if_neg (by decide), if_pos (by decide)]
  · have : form = 1 ∨ form = 2 ∨ form = 3 ∨ form = 4 ∨ form = 5 := by omega
    rcases this with rfl | rfl | rfl | rfl | rfl
    · exact rput1 k n
    · exact rput2 k n
    · exact rput3 k n
    · exact rput4 k n
    · exact rput5 k n

theorem ImmPuts : pintlelaw02_ImmPuts.Pure := by
  intro form n _ _
  refine ⟨66, ?_⟩
  unfold pintlelaw02_ImmPuts.f
  rw [put_is 55, rput_is 0, obind, obind, if_pos rfl, if_pos (by rw [beq_self_eq_true]), lives_is 66 (by decide), obind]

end Go.Proofs.Ytkbbphcfhgjapaa.Pure
