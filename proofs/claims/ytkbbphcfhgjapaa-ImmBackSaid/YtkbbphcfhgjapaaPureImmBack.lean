/- Each number comes back from its word, and each word from its number, but for bits that the form does not name (P2.3). -/
import Derived.Test.YtkbbphcfhgjapaaPImmBackx2
import Derived.Test.YtkbbphcfhgjapaaImmPlain
namespace Go.Proofs.Ytkbbphcfhgjapaa.Pure
set_option linter.unusedVariables false
open Go.RowKit Go.Proofs.Ytkbbphcfhgjapaa.PImmBack Go.Proofs.YtkbbphcfhgjapaaW.PrintWords Go.Proofs.YtkbbphcfhgjapaaW.PrintLast Go.Proofs.YtkbbphcfhgjapaaW.PrintMore ImmPlain

theorem obind {α β : Type} (a : α) (f : α → Option β) : Option.bind (some a) f = f a := by
  have h : ∀ x, x = some a → Option.bind x f = f a := fun x hx => by rw [hx]; rfl
  exact h _ rfl

theorem shrC (w : Int) (n : Nat) (h : n ≤ 32) : shr .u32 w (n : Int) = w / 2 ^ n := by
  unfold shr; rw [Int.toNat_natCast, Nat.min_eq_left (by simpa [IntKind.bits] using h)]

theorem mask_is (m : Nat) (hm : m ≤ 32) : imm_mask.f m = some (2 ^ m - 1) := by
  unfold imm_mask.f
  rw [if_pos (by omega)]
  unfold shl
  rw [Int.toNat_natCast, Nat.min_eq_left (by simpa [IntKind.bits] using hm), IntKind.wrap_u32, Int.one_mul]
  have : m < 32 ∨ m = 32 := by omega
  rcases this with h | rfl
  · have h2' : 2 ^ m ≤ 2 ^ 31 := Nat.pow_le_pow_right (by decide) (by omega)
    have h2 : (2 : Int) ^ m ≤ 2147483648 := by
      have := Int.ofNat_le.mpr h2'
      rw [Int.natCast_pow, Int.natCast_pow] at this
      exact this
    have h3 : (0 : Int) < 2 ^ m := Int.pow_pos (by decide)
    congr 1
    omega
  · rfl

/-- A piece of a word, put to its place. -/
theorem piece_is (w : Int) (f m t : Nat) (hf : f ≤ 31) (hm : m ≤ 32) (ht : t ≤ 31) (F M T : Int) (eF : (2 : Int) ^ f = F) (eM : (2 : Int) ^ m = M) (eT : (2 : Int) ^ t = T) (hMT : M * T ≤ 4294967296) (hw0 : 0 ≤ w) (hw1 : w < 4294967296) :
    shl .u32 (Go.bits .and .u32 (shr .u32 w (f : Int)) (2 ^ m - 1)) (t : Int) = w / F % M * T := by
  subst eF eM eT
  have hx : (w / 2 ^ f : Int) < 4294967296 ∧ 0 ≤ (w / 2 ^ f : Int) := by
    have hpos : (0 : Int) < 2 ^ f := Int.pow_pos (by decide)
    exact ⟨Int.lt_of_le_of_lt (Int.ediv_le_self _ hw0) hw1, Int.ediv_nonneg hw0 (Int.le_of_lt hpos)⟩
  rw [shrC w f (by omega), and_mask m hm _ hx.2 hx.1]
  unfold shl
  rw [Int.toNat_natCast, Nat.min_eq_left (by simp [IntKind.bits]; omega), IntKind.wrap_u32]
  have hM : (0 : Int) < 2 ^ m := Int.pow_pos (by decide)
  have hT : (0 : Int) < 2 ^ t := Int.pow_pos (by decide)
  have a0 : 0 ≤ w / 2 ^ f % 2 ^ m := Int.emod_nonneg _ (by omega)
  have a1 : w / 2 ^ f % 2 ^ m < 2 ^ m := Int.emod_lt_of_pos _ hM
  have a2 : w / 2 ^ f % 2 ^ m * 2 ^ t < 2 ^ m * 2 ^ t := Int.mul_lt_mul_of_pos_right a1 hT
  exact Int.emod_eq_of_lt (Int.mul_nonneg a0 (by omega)) (by omega)

/-- One round of the loop over the pieces. -/
theorem get_step (k : Nat) (w many acc : Int) (l : List S54) (i : Nat) (hi : i < l.length) (hl : l.length ≤ 4) (f m t : Nat) (hp : l.getD i z54 = ⟨f, m, t⟩) (hf : f ≤ 31) (hm : m ≤ 32) (ht : t ≤ 31) (F M T : Int) (eF : (2 : Int) ^ f = F) (eM : (2 : Int) ^ m = M) (eT : (2 : Int) ^ t = T) (hMT : M * T ≤ 4294967296) (hw0 : 0 ≤ w) (hw1 : w < 4294967296) :
    imm_get.l0 (k + 1) w many acc l l.length i = imm_get.l0 k w many (Go.bits .or .u32 acc (w / F % M * T)) l l.length ((i + 1 : Nat) : Int) := by
  have e1 : rd_T54 l i = ⟨f, m, t⟩ := by simpa [rd_T54] using hp
  simp only [imm_get.l0, e1]
  rw [if_pos (by omega), if_pos (by omega), if_pos (by omega), if_pos (by omega), mask_is m hm]
  simp only [Option.bind_some]
  rw [if_pos (by omega)]
  have e3 : wrap64 ((i : Int) + 1) = ((i + 1 : Nat) : Int) := by unfold wrap64; omega
  rw [piece_is w f m t hf hm ht F M T eF eM eT hMT hw0 hw1, e3]

theorem sext12 (n : Int) (h0 : 0 ≤ n) (hn : n < 4096) : num_Sext.f n 12 = some ((if n < 2048 then n else n - 4096) % 4294967296) := by
  have e1 : wrap64 (32 - 12) = 20 := by unfold wrap64; omega
  have e2 : shl .u32 n 20 = n * 1048576 := by
    show IntKind.u32.wrap (n * 2 ^ 20) = _
    rw [IntKind.wrap_u32]; omega
  have e3 : shr .i32 (wrap32 (n * 1048576)) 20 = (if n < 2048 then n else n - 4096) := by
    show wrap32 (n * 1048576) / 2 ^ 20 = _
    unfold wrap32; split <;> omega
  unfold num_Sext.f
  rw [if_neg (by omega), if_neg (by omega), e1, if_pos (by omega), e2, e3]

theorem sext13 (n : Int) (h0 : 0 ≤ n) (hn : n < 8192) : num_Sext.f n 13 = some ((if n < 4096 then n else n - 8192) % 4294967296) := by
  have e1 : wrap64 (32 - 13) = 19 := by unfold wrap64; omega
  have e2 : shl .u32 n 19 = n * 524288 := by
    show IntKind.u32.wrap (n * 2 ^ 19) = _
    rw [IntKind.wrap_u32]; omega
  have e3 : shr .i32 (wrap32 (n * 524288)) 19 = (if n < 4096 then n else n - 8192) := by
    show wrap32 (n * 524288) / 2 ^ 19 = _
    unfold wrap32; split <;> omega
  unfold num_Sext.f
  rw [if_neg (by omega), if_neg (by omega), e1, if_pos (by omega), e2, e3]

theorem sext21 (n : Int) (h0 : 0 ≤ n) (hn : n < 2097152) : num_Sext.f n 21 = some ((if n < 1048576 then n else n - 2097152) % 4294967296) := by
  have e1 : wrap64 (32 - 21) = 11 := by unfold wrap64; omega
  have e2 : shl .u32 n 11 = n * 2048 := by
    show IntKind.u32.wrap (n * 2 ^ 11) = _
    rw [IntKind.wrap_u32]; omega
  have e3 : shr .i32 (wrap32 (n * 2048)) 11 = (if n < 1048576 then n else n - 2097152) := by
    show wrap32 (n * 2048) / 2 ^ 11 = _
    unfold wrap32; split <;> omega
  unfold num_Sext.f
  rw [if_neg (by omega), if_neg (by omega), e1, if_pos (by omega), e2, e3]

theorem signed_is (n m : Int) (h0 : -2147483648 ≤ n) (h1 : n ≤ 2147483647) (hm : m % 4294967296 = n % 4294967296) : num_Signed.f m = some n := by
  unfold num_Signed.f
  have : wrap32 m = n := by unfold wrap32; omega
  rw [this]

theorem get_end (k : Nat) (w many acc n m : Int) (l : List S54) (hs : num_Sext.f acc many = some m) (h0 : -2147483648 ≤ n) (h1 : n ≤ 2147483647) (hm : m % 4294967296 = n % 4294967296) :
    imm_get.l0 (k + 1) w many acc l l.length (l.length : Nat) = some n := by
  simp only [imm_get.l0]
  rw [if_neg (by omega), hs, obind, signed_is n m h0 h1 hm, obind]

theorem get1 (k : Nat) (w : Int) (hw0 : 0 ≤ w) (hw1 : w < 4294967296) : imm_get.f (k + 6) 1 w = some (getN 1 w) := by
  rw [getN_1]
  unfold imm_get.f imm_pieces.f
  rw [if_pos (show (1 : Int) = 1 from rfl)]
  rw [obind]
  refine Eq.trans (get_step (k + 5) w 12 _ [⟨20, 12, 0⟩] 0 (by decide) (by decide) 20 12 0 rfl (by decide) (by decide) (by decide) 1048576 4096 1 rfl rfl rfl (by decide) hw0 hw1) ?_
  rw [or_zero _ (by omega) (by omega)]
  refine get_end (k + 4) w 12 _ _ _ [⟨20, 12, 0⟩] (sext12 _ (by omega) (by omega)) ?_ ?_ ?_
  · unfold g1; split <;> omega
  · unfold g1; split <;> omega
  · unfold g1; (repeat' split) <;> omega

theorem get2 (k : Nat) (w : Int) (hw0 : 0 ≤ w) (hw1 : w < 4294967296) : imm_get.f (k + 6) 2 w = some (getN 2 w) := by
  rw [getN_2]
  unfold imm_get.f imm_pieces.f
  rw [if_neg (show ¬((2 : Int) = 1) by decide)]
  rw [if_pos (show (2 : Int) = 2 from rfl)]
  rw [obind]
  refine Eq.trans (get_step (k + 5) w 12 _ [⟨25, 7, 5⟩, ⟨7, 5, 0⟩] 0 (by decide) (by decide) 25 7 5 rfl (by decide) (by decide) (by decide) 33554432 128 32 rfl rfl rfl (by decide) hw0 hw1) ?_
  rw [or_zero _ (by omega) (by omega)]
  refine Eq.trans (get_step (k + 4) w 12 _ [⟨25, 7, 5⟩, ⟨7, 5, 0⟩] 1 (by decide) (by decide) 7 5 0 rfl (by decide) (by decide) (by decide) 128 32 1 rfl rfl rfl (by decide) hw0 hw1) ?_
  rw [or_add 5 _ _ (by omega) (by omega) (by omega) (by omega) (by omega) (by omega)]
  refine get_end (k + 3) w 12 _ _ _ [⟨25, 7, 5⟩, ⟨7, 5, 0⟩] (sext12 _ (by omega) (by omega)) ?_ ?_ ?_
  · unfold g2; split <;> omega
  · unfold g2; split <;> omega
  · unfold g2; (repeat' split) <;> omega

theorem get3 (k : Nat) (w : Int) (hw0 : 0 ≤ w) (hw1 : w < 4294967296) : imm_get.f (k + 6) 3 w = some (getN 3 w) := by
  rw [getN_3]
  unfold imm_get.f imm_pieces.f
  rw [if_neg (show ¬((3 : Int) = 1) by decide)]
  rw [if_neg (show ¬((3 : Int) = 2) by decide)]
  rw [if_pos (show (3 : Int) = 3 from rfl)]
  rw [obind]
  refine Eq.trans (get_step (k + 5) w 13 _ [⟨31, 1, 12⟩, ⟨7, 1, 11⟩, ⟨25, 6, 5⟩, ⟨8, 4, 1⟩] 0 (by decide) (by decide) 31 1 12 rfl (by decide) (by decide) (by decide) 2147483648 2 4096 rfl rfl rfl (by decide) hw0 hw1) ?_
  rw [or_zero _ (by omega) (by omega)]
  refine Eq.trans (get_step (k + 4) w 13 _ [⟨31, 1, 12⟩, ⟨7, 1, 11⟩, ⟨25, 6, 5⟩, ⟨8, 4, 1⟩] 1 (by decide) (by decide) 7 1 11 rfl (by decide) (by decide) (by decide) 128 2 2048 rfl rfl rfl (by decide) hw0 hw1) ?_
  rw [or_add 12 _ _ (by omega) (by omega) (by omega) (by omega) (by omega) (by omega)]
  refine Eq.trans (get_step (k + 3) w 13 _ [⟨31, 1, 12⟩, ⟨7, 1, 11⟩, ⟨25, 6, 5⟩, ⟨8, 4, 1⟩] 2 (by decide) (by decide) 25 6 5 rfl (by decide) (by decide) (by decide) 33554432 64 32 rfl rfl rfl (by decide) hw0 hw1) ?_
  rw [or_add 11 _ _ (by omega) (by omega) (by omega) (by omega) (by omega) (by omega)]
  refine Eq.trans (get_step (k + 2) w 13 _ [⟨31, 1, 12⟩, ⟨7, 1, 11⟩, ⟨25, 6, 5⟩, ⟨8, 4, 1⟩] 3 (by decide) (by decide) 8 4 1 rfl (by decide) (by decide) (by decide) 256 16 2 rfl rfl rfl (by decide) hw0 hw1) ?_
  rw [or_add 5 _ _ (by omega) (by omega) (by omega) (by omega) (by omega) (by omega)]
  refine get_end (k + 1) w 13 _ _ _ [⟨31, 1, 12⟩, ⟨7, 1, 11⟩, ⟨25, 6, 5⟩, ⟨8, 4, 1⟩] (sext13 _ (by omega) (by omega)) ?_ ?_ ?_
  · unfold g3; split <;> omega
  · unfold g3; split <;> omega
  · unfold g3; (repeat' split) <;> omega

theorem get4 (k : Nat) (w : Int) (hw0 : 0 ≤ w) (hw1 : w < 4294967296) : imm_get.f (k + 6) 4 w = some (getN 4 w) := by
  rw [getN_4]
  unfold imm_get.f imm_pieces.f
  rw [if_neg (show ¬((4 : Int) = 1) by decide)]
  rw [if_neg (show ¬((4 : Int) = 2) by decide)]
  rw [if_neg (show ¬((4 : Int) = 3) by decide)]
  rw [if_pos (show (4 : Int) = 4 from rfl)]
  rw [obind]
  refine Eq.trans (get_step (k + 5) w 32 _ [⟨12, 20, 12⟩] 0 (by decide) (by decide) 12 20 12 rfl (by decide) (by decide) (by decide) 4096 1048576 4096 rfl rfl rfl (by decide) hw0 hw1) ?_
  rw [or_zero _ (by omega) (by omega)]
  refine get_end (k + 4) w 32 _ _ _ [⟨12, 20, 12⟩] (by unfold num_Sext.f; rw [if_neg (show ¬((32 : Int) < 1) by decide), if_pos (show (32 : Int) ≥ 32 by decide)]) ?_ ?_ ?_
  · unfold g4; split <;> omega
  · unfold g4; split <;> omega
  · unfold g4; split <;> omega

theorem get5 (k : Nat) (w : Int) (hw0 : 0 ≤ w) (hw1 : w < 4294967296) : imm_get.f (k + 6) 5 w = some (getN 5 w) := by
  rw [getN_5]
  unfold imm_get.f imm_pieces.f
  rw [if_neg (show ¬((5 : Int) = 1) by decide)]
  rw [if_neg (show ¬((5 : Int) = 2) by decide)]
  rw [if_neg (show ¬((5 : Int) = 3) by decide)]
  rw [if_neg (show ¬((5 : Int) = 4) by decide)]
  rw [if_pos (show (5 : Int) = 5 from rfl)]
  rw [obind]
  refine Eq.trans (get_step (k + 5) w 21 _ [⟨31, 1, 20⟩, ⟨12, 8, 12⟩, ⟨20, 1, 11⟩, ⟨21, 10, 1⟩] 0 (by decide) (by decide) 31 1 20 rfl (by decide) (by decide) (by decide) 2147483648 2 1048576 rfl rfl rfl (by decide) hw0 hw1) ?_
  rw [or_zero _ (by omega) (by omega)]
  refine Eq.trans (get_step (k + 4) w 21 _ [⟨31, 1, 20⟩, ⟨12, 8, 12⟩, ⟨20, 1, 11⟩, ⟨21, 10, 1⟩] 1 (by decide) (by decide) 12 8 12 rfl (by decide) (by decide) (by decide) 4096 256 4096 rfl rfl rfl (by decide) hw0 hw1) ?_
  rw [or_add 20 _ _ (by omega) (by omega) (by omega) (by omega) (by omega) (by omega)]
  refine Eq.trans (get_step (k + 3) w 21 _ [⟨31, 1, 20⟩, ⟨12, 8, 12⟩, ⟨20, 1, 11⟩, ⟨21, 10, 1⟩] 2 (by decide) (by decide) 20 1 11 rfl (by decide) (by decide) (by decide) 1048576 2 2048 rfl rfl rfl (by decide) hw0 hw1) ?_
  rw [or_add 12 _ _ (by omega) (by omega) (by omega) (by omega) (by omega) (by omega)]
  refine Eq.trans (get_step (k + 2) w 21 _ [⟨31, 1, 20⟩, ⟨12, 8, 12⟩, ⟨20, 1, 11⟩, ⟨21, 10, 1⟩] 3 (by decide) (by decide) 21 10 1 rfl (by decide) (by decide) (by decide) 2097152 1024 2 rfl rfl rfl (by decide) hw0 hw1) ?_
  rw [or_add 11 _ _ (by omega) (by omega) (by omega) (by omega) (by omega) (by omega)]
  refine get_end (k + 1) w 21 _ _ _ [⟨31, 1, 20⟩, ⟨12, 8, 12⟩, ⟨20, 1, 11⟩, ⟨21, 10, 1⟩] (sext21 _ (by omega) (by omega)) ?_ ?_ ?_
  · unfold g5; split <;> omega
  · unfold g5; split <;> omega
  · unfold g5; (repeat' split) <;> omega

theorem getN_none (form w : Int) (hf : form < 1 ∨ 5 < form) : getN form w = 0 := by
  unfold getN
  rw [if_neg (by omega), if_neg (by omega), if_neg (by omega), if_neg (by omega), if_neg (by omega)]

theorem pieces_none (form : Int) (hf : form < 1 ∨ 5 < form) : imm_pieces.f form = some ([], 0) := by
  unfold imm_pieces.f
  rw [if_neg (by omega), if_neg (by omega), if_neg (by omega), if_neg (by omega), if_neg (by omega)]

theorem get_none (k : Nat) (form w : Int) (hf : form < 1 ∨ 5 < form) : imm_get.f (k + 6) form w = some (getN form w) := by
  rw [getN_none form w hf]
  unfold imm_get.f
  rw [pieces_none form hf, obind]
  exact get_end (k + 5) w 0 0 0 0 [] (by unfold num_Sext.f; rw [if_pos (show (0 : Int) < 1 by decide)]) (by decide) (by decide) (by decide)

theorem get_is (k : Nat) (form w : Int) (hw0 : 0 ≤ w) (hw1 : w < 4294967296) : imm_get.f (k + 6) form w = some (getN form w) := by
  by_cases h : form < 1 ∨ 5 < form
  · exact get_none k form w h
  · have : form = 1 ∨ form = 2 ∨ form = 3 ∨ form = 4 ∨ form = 5 := by omega
    rcases this with rfl | rfl | rfl | rfl | rfl
    · exact get1 k w hw0 hw1
    · exact get2 k w hw0 hw1
    · exact get3 k w hw0 hw1
    · exact get4 k w hw0 hw1
    · exact get5 k w hw0 hw1

/-- One round of Put's loop over the pieces. -/
theorem put_step (k : Nat) (form n many acc : Int) (l : List S54) (i : Nat) (hi : i < l.length) (hl : l.length ≤ 4) (f m t : Nat) (hp : l.getD i z54 = ⟨f, m, t⟩) (hf : f ≤ 31) (hm : m ≤ 32) (ht : t ≤ 31) (F M T : Int) (eF : (2 : Int) ^ f = F) (eM : (2 : Int) ^ m = M) (eT : (2 : Int) ^ t = T) (hMT : M * F ≤ 4294967296) :
    imm_Put.l0 (k + 1) form n many acc l l.length i = imm_Put.l0 k form n many (Go.bits .or .u32 acc (n % 4294967296 / T % M * F)) l l.length ((i + 1 : Nat) : Int) := by
  have e1 : rd_T54 l i = ⟨f, m, t⟩ := by simpa [rd_T54] using hp
  simp only [imm_Put.l0, e1]
  rw [if_pos (by omega), if_pos (by omega), if_pos (by omega), if_pos (by omega), mask_is m hm]
  simp only [Option.bind_some]
  rw [if_pos (by omega)]
  have e3 : wrap64 ((i : Int) + 1) = ((i + 1 : Nat) : Int) := by unfold wrap64; omega
  rw [piece_is (n % 4294967296) t m f ht hm hf T M F eT eM eF hMT (by omega) (by omega), e3]

theorem put_end (k : Nat) (form n many acc : Int) (l : List S54) (hm : many ≠ 0) (h0 : 0 ≤ acc) (h1 : acc < 4294967296) :
    imm_Put.l0 (k + 7) form n many acc l l.length (l.length : Nat) = some (if getN form acc = n then (acc, true) else (0, false)) := by
  simp only [imm_Put.l0]
  rw [if_neg (by omega), if_neg hm, get_is k form acc h0 h1, obind]
  split <;> rfl

/-- What Put answers. -/
def putR (form n : Int) : Int × Bool := if 1 ≤ form ∧ form ≤ 5 ∧ getN form (putN form (n % 4294967296)) = n then (putN form (n % 4294967296), true) else (0, false)

theorem put1 (k : Nat) (n : Int) : imm_Put.f (k + 11) 1 n = some (putR 1 n) := by
  have eR : putR 1 n = if getN 1 (p1 (n % 4294967296)) = n then (p1 (n % 4294967296), true) else (0, false) := by
    unfold putR
    rw [putN_1]
    by_cases h : getN 1 (p1 (n % 4294967296)) = n
    · rw [if_pos h, if_pos ⟨by decide, by decide, h⟩]
    · rw [if_neg h, if_neg (fun hh => h hh.2.2)]
  rw [eR]
  unfold imm_Put.f imm_pieces.f
  rw [if_pos (show (1 : Int) = 1 from rfl)]
  rw [obind]
  refine Eq.trans (put_step (k + 10) 1 n 12 _ [⟨20, 12, 0⟩] 0 (by decide) (by decide) 20 12 0 rfl (by decide) (by decide) (by decide) 1048576 4096 1 rfl rfl rfl (by decide)) ?_
  have hu0 : 0 ≤ n % 4294967296 := by omega
  have hu1 : n % 4294967296 < 4294967296 := by omega
  generalize n % 4294967296 = u at hu0 hu1
  rw [or_zero _ (by omega) (by omega)]
  have e : (u / 1 % 4096 * 1048576) = p1 u := by unfold p1; omega
  rw [e]
  have hp : 0 ≤ p1 u ∧ p1 u < 4294967296 := by rw [← e]; omega
  exact put_end (k + 3) 1 n 12 _ [⟨20, 12, 0⟩] (by decide) hp.1 hp.2

theorem put2 (k : Nat) (n : Int) : imm_Put.f (k + 11) 2 n = some (putR 2 n) := by
  have eR : putR 2 n = if getN 2 (p2 (n % 4294967296)) = n then (p2 (n % 4294967296), true) else (0, false) := by
    unfold putR
    rw [putN_2]
    by_cases h : getN 2 (p2 (n % 4294967296)) = n
    · rw [if_pos h, if_pos ⟨by decide, by decide, h⟩]
    · rw [if_neg h, if_neg (fun hh => h hh.2.2)]
  rw [eR]
  unfold imm_Put.f imm_pieces.f
  rw [if_neg (show ¬((2 : Int) = 1) by decide)]
  rw [if_pos (show (2 : Int) = 2 from rfl)]
  rw [obind]
  refine Eq.trans (put_step (k + 10) 2 n 12 _ [⟨25, 7, 5⟩, ⟨7, 5, 0⟩] 0 (by decide) (by decide) 25 7 5 rfl (by decide) (by decide) (by decide) 33554432 128 32 rfl rfl rfl (by decide)) ?_
  refine Eq.trans (put_step (k + 9) 2 n 12 _ [⟨25, 7, 5⟩, ⟨7, 5, 0⟩] 1 (by decide) (by decide) 7 5 0 rfl (by decide) (by decide) (by decide) 128 32 1 rfl rfl rfl (by decide)) ?_
  have hu0 : 0 ≤ n % 4294967296 := by omega
  have hu1 : n % 4294967296 < 4294967296 := by omega
  generalize n % 4294967296 = u at hu0 hu1
  rw [or_zero _ (by omega) (by omega)]
  rw [or_add 12 _ _ (by omega) (by omega) (by omega) (by omega) (by omega) (by omega)]
  have e : (u / 32 % 128 * 33554432) + (u / 1 % 32 * 128) = p2 u := by unfold p2; omega
  rw [e]
  have hp : 0 ≤ p2 u ∧ p2 u < 4294967296 := by rw [← e]; omega
  exact put_end (k + 2) 2 n 12 _ [⟨25, 7, 5⟩, ⟨7, 5, 0⟩] (by decide) hp.1 hp.2

theorem put3 (k : Nat) (n : Int) : imm_Put.f (k + 11) 3 n = some (putR 3 n) := by
  have eR : putR 3 n = if getN 3 (p3 (n % 4294967296)) = n then (p3 (n % 4294967296), true) else (0, false) := by
    unfold putR
    rw [putN_3]
    by_cases h : getN 3 (p3 (n % 4294967296)) = n
    · rw [if_pos h, if_pos ⟨by decide, by decide, h⟩]
    · rw [if_neg h, if_neg (fun hh => h hh.2.2)]
  rw [eR]
  unfold imm_Put.f imm_pieces.f
  rw [if_neg (show ¬((3 : Int) = 1) by decide)]
  rw [if_neg (show ¬((3 : Int) = 2) by decide)]
  rw [if_pos (show (3 : Int) = 3 from rfl)]
  rw [obind]
  refine Eq.trans (put_step (k + 10) 3 n 13 _ [⟨31, 1, 12⟩, ⟨7, 1, 11⟩, ⟨25, 6, 5⟩, ⟨8, 4, 1⟩] 0 (by decide) (by decide) 31 1 12 rfl (by decide) (by decide) (by decide) 2147483648 2 4096 rfl rfl rfl (by decide)) ?_
  refine Eq.trans (put_step (k + 9) 3 n 13 _ [⟨31, 1, 12⟩, ⟨7, 1, 11⟩, ⟨25, 6, 5⟩, ⟨8, 4, 1⟩] 1 (by decide) (by decide) 7 1 11 rfl (by decide) (by decide) (by decide) 128 2 2048 rfl rfl rfl (by decide)) ?_
  refine Eq.trans (put_step (k + 8) 3 n 13 _ [⟨31, 1, 12⟩, ⟨7, 1, 11⟩, ⟨25, 6, 5⟩, ⟨8, 4, 1⟩] 2 (by decide) (by decide) 25 6 5 rfl (by decide) (by decide) (by decide) 33554432 64 32 rfl rfl rfl (by decide)) ?_
  refine Eq.trans (put_step (k + 7) 3 n 13 _ [⟨31, 1, 12⟩, ⟨7, 1, 11⟩, ⟨25, 6, 5⟩, ⟨8, 4, 1⟩] 3 (by decide) (by decide) 8 4 1 rfl (by decide) (by decide) (by decide) 256 16 2 rfl rfl rfl (by decide)) ?_
  have hu0 : 0 ≤ n % 4294967296 := by omega
  have hu1 : n % 4294967296 < 4294967296 := by omega
  generalize n % 4294967296 = u at hu0 hu1
  rw [or_zero _ (by omega) (by omega)]
  rw [or_swap (u / 4096 % 2 * 2147483648) (u / 2048 % 2 * 128) (u / 32 % 64 * 33554432) (by omega) (by omega) (by omega) (by omega) (by omega) (by omega)]
  rw [or_add 31 (u / 4096 % 2 * 2147483648) (u / 32 % 64 * 33554432) (by omega) (by omega) (by omega) (by omega) (by omega) (by omega)]
  rw [or_swap _ (u / 2048 % 2 * 128) (u / 2 % 16 * 256) (by omega) (by omega) (by omega) (by omega) (by omega) (by omega)]
  rw [or_add 12 _ (u / 2 % 16 * 256) (by omega) (by omega) (by omega) (by omega) (by omega) (by omega)]
  rw [or_add 8 _ (u / 2048 % 2 * 128) (by omega) (by omega) (by omega) (by omega) (by omega) (by omega)]
  have e : (u / 4096 % 2 * 2147483648) + (u / 32 % 64 * 33554432) + (u / 2 % 16 * 256) + (u / 2048 % 2 * 128) = p3 u := by unfold p3; omega
  rw [e]
  have hp : 0 ≤ p3 u ∧ p3 u < 4294967296 := by rw [← e]; omega
  exact put_end (k + 0) 3 n 13 _ [⟨31, 1, 12⟩, ⟨7, 1, 11⟩, ⟨25, 6, 5⟩, ⟨8, 4, 1⟩] (by decide) hp.1 hp.2

theorem put4 (k : Nat) (n : Int) : imm_Put.f (k + 11) 4 n = some (putR 4 n) := by
  have eR : putR 4 n = if getN 4 (p4 (n % 4294967296)) = n then (p4 (n % 4294967296), true) else (0, false) := by
    unfold putR
    rw [putN_4]
    by_cases h : getN 4 (p4 (n % 4294967296)) = n
    · rw [if_pos h, if_pos ⟨by decide, by decide, h⟩]
    · rw [if_neg h, if_neg (fun hh => h hh.2.2)]
  rw [eR]
  unfold imm_Put.f imm_pieces.f
  rw [if_neg (show ¬((4 : Int) = 1) by decide)]
  rw [if_neg (show ¬((4 : Int) = 2) by decide)]
  rw [if_neg (show ¬((4 : Int) = 3) by decide)]
  rw [if_pos (show (4 : Int) = 4 from rfl)]
  rw [obind]
  refine Eq.trans (put_step (k + 10) 4 n 32 _ [⟨12, 20, 12⟩] 0 (by decide) (by decide) 12 20 12 rfl (by decide) (by decide) (by decide) 4096 1048576 4096 rfl rfl rfl (by decide)) ?_
  have hu0 : 0 ≤ n % 4294967296 := by omega
  have hu1 : n % 4294967296 < 4294967296 := by omega
  generalize n % 4294967296 = u at hu0 hu1
  rw [or_zero _ (by omega) (by omega)]
  have e : (u / 4096 % 1048576 * 4096) = p4 u := by unfold p4; omega
  rw [e]
  have hp : 0 ≤ p4 u ∧ p4 u < 4294967296 := by rw [← e]; omega
  exact put_end (k + 3) 4 n 32 _ [⟨12, 20, 12⟩] (by decide) hp.1 hp.2

theorem put5 (k : Nat) (n : Int) : imm_Put.f (k + 11) 5 n = some (putR 5 n) := by
  have eR : putR 5 n = if getN 5 (p5 (n % 4294967296)) = n then (p5 (n % 4294967296), true) else (0, false) := by
    unfold putR
    rw [putN_5]
    by_cases h : getN 5 (p5 (n % 4294967296)) = n
    · rw [if_pos h, if_pos ⟨by decide, by decide, h⟩]
    · rw [if_neg h, if_neg (fun hh => h hh.2.2)]
  rw [eR]
  unfold imm_Put.f imm_pieces.f
  rw [if_neg (show ¬((5 : Int) = 1) by decide)]
  rw [if_neg (show ¬((5 : Int) = 2) by decide)]
  rw [if_neg (show ¬((5 : Int) = 3) by decide)]
  rw [if_neg (show ¬((5 : Int) = 4) by decide)]
  rw [if_pos (show (5 : Int) = 5 from rfl)]
  rw [obind]
  refine Eq.trans (put_step (k + 10) 5 n 21 _ [⟨31, 1, 20⟩, ⟨12, 8, 12⟩, ⟨20, 1, 11⟩, ⟨21, 10, 1⟩] 0 (by decide) (by decide) 31 1 20 rfl (by decide) (by decide) (by decide) 2147483648 2 1048576 rfl rfl rfl (by decide)) ?_
  refine Eq.trans (put_step (k + 9) 5 n 21 _ [⟨31, 1, 20⟩, ⟨12, 8, 12⟩, ⟨20, 1, 11⟩, ⟨21, 10, 1⟩] 1 (by decide) (by decide) 12 8 12 rfl (by decide) (by decide) (by decide) 4096 256 4096 rfl rfl rfl (by decide)) ?_
  refine Eq.trans (put_step (k + 8) 5 n 21 _ [⟨31, 1, 20⟩, ⟨12, 8, 12⟩, ⟨20, 1, 11⟩, ⟨21, 10, 1⟩] 2 (by decide) (by decide) 20 1 11 rfl (by decide) (by decide) (by decide) 1048576 2 2048 rfl rfl rfl (by decide)) ?_
  refine Eq.trans (put_step (k + 7) 5 n 21 _ [⟨31, 1, 20⟩, ⟨12, 8, 12⟩, ⟨20, 1, 11⟩, ⟨21, 10, 1⟩] 3 (by decide) (by decide) 21 10 1 rfl (by decide) (by decide) (by decide) 2097152 1024 2 rfl rfl rfl (by decide)) ?_
  have hu0 : 0 ≤ n % 4294967296 := by omega
  have hu1 : n % 4294967296 < 4294967296 := by omega
  generalize n % 4294967296 = u at hu0 hu1
  rw [or_zero _ (by omega) (by omega)]
  have hr := or_range (u / 1048576 % 2 * 2147483648) (u / 4096 % 256 * 4096) (by omega) (by omega) (by omega) (by omega)
  rw [or_swap _ (u / 2048 % 2 * 1048576) (u / 2 % 1024 * 2097152) hr.1 hr.2 (by omega) (by omega) (by omega) (by omega)]
  rw [or_swap (u / 1048576 % 2 * 2147483648) (u / 4096 % 256 * 4096) (u / 2 % 1024 * 2097152) (by omega) (by omega) (by omega) (by omega) (by omega) (by omega)]
  rw [or_add 31 (u / 1048576 % 2 * 2147483648) (u / 2 % 1024 * 2097152) (by omega) (by omega) (by omega) (by omega) (by omega) (by omega)]
  rw [or_swap _ (u / 4096 % 256 * 4096) (u / 2048 % 2 * 1048576) (by omega) (by omega) (by omega) (by omega) (by omega) (by omega)]
  rw [or_add 21 _ (u / 2048 % 2 * 1048576) (by omega) (by omega) (by omega) (by omega) (by omega) (by omega)]
  rw [or_add 20 _ (u / 4096 % 256 * 4096) (by omega) (by omega) (by omega) (by omega) (by omega) (by omega)]
  have e : (u / 1048576 % 2 * 2147483648) + (u / 2 % 1024 * 2097152) + (u / 2048 % 2 * 1048576) + (u / 4096 % 256 * 4096) = p5 u := by unfold p5; omega
  rw [e]
  have hp : 0 ≤ p5 u ∧ p5 u < 4294967296 := by rw [← e]; omega
  exact put_end (k + 0) 5 n 21 _ [⟨31, 1, 20⟩, ⟨12, 8, 12⟩, ⟨20, 1, 11⟩, ⟨21, 10, 1⟩] (by decide) hp.1 hp.2

theorem put_none (k : Nat) (form n : Int) (hf : form < 1 ∨ 5 < form) : imm_Put.f (k + 11) form n = some (putR form n) := by
  have e : putR form n = (0, false) := by unfold putR; rw [if_neg (by omega)]
  rw [e]
  unfold imm_Put.f
  rw [pieces_none form hf, obind]
  simp only [imm_Put.l0]
  rw [if_neg (by decide), if_pos trivial]

theorem put_is (k : Nat) (form n : Int) : imm_Put.f (k + 11) form n = some (putR form n) := by
  by_cases h : form < 1 ∨ 5 < form
  · exact put_none k form n h
  · have : form = 1 ∨ form = 2 ∨ form = 3 ∨ form = 4 ∨ form = 5 := by omega
    rcases this with rfl | rfl | rfl | rfl | rfl
    · exact put1 k n
    · exact put2 k n
    · exact put3 k n
    · exact put4 k n
    · exact put5 k n

theorem lives_is (k : Nat) (hk : 20 ≤ k) : pintlelaw02_lives.f k = some true := by
  refine at_rounds (g := fun k => pintlelaw02_lives.f k) (fun k => pintlelaw02_lives.mono k) hk ?_
  show pintlelaw02_lives.f 20 = some true
  unfold pintlelaw02_lives.f imm_Get.f
  have e : putR 3 (-2) = (4261416832, true) := by decide
  have e2 : getN 3 4261416832 = -2 := by decide
  rw [put_is 9 3 (-2), e, obind, if_pos (by decide), if_pos (by decide), get_is 14 3 4261416832 (by decide) (by decide), e2, obind, obind]
  rfl

theorem wf_u8 {n : Int} (h : (Lit.int .u8 n).wf = true) : 0 ≤ n ∧ n < 256 := by
  simp only [Lit.wf, Bool.and_eq_true, decide_eq_true_eq] at h
  have e1 : IntKind.u8.min = 0 := by decide
  have e2 : IntKind.u8.max = 255 := by decide
  rw [e1, e2] at h
  omega

theorem wf_i32 {n : Int} (h : (Lit.int .i32 n).wf = true) : -2147483648 ≤ n ∧ n ≤ 2147483647 := by
  simp only [Lit.wf, Bool.and_eq_true, decide_eq_true_eq] at h
  have e1 : IntKind.i32.min = -2147483648 := by decide
  have e2 : IntKind.i32.max = 2147483647 := by decide
  rw [e1, e2] at h
  exact h

theorem form_is (a : Int) (h0 : 0 ≤ a) (h1 : a < 256) : wrap64 (1 + wrap64 (Int.tmod a 5)) = 1 + a % 5 := by
  rw [Int.tmod_eq_emod_of_nonneg h0]
  unfold wrap64; omega

theorem wf_u32 {n : Int} (h : (Lit.int .u32 n).wf = true) : 0 ≤ n ∧ n < 4294967296 := by
  simp only [Lit.wf, Bool.and_eq_true, decide_eq_true_eq] at h
  have e1 : IntKind.u32.min = 0 := by decide
  have e2 : IntKind.u32.max = 4294967295 := by decide
  rw [e1, e2] at h
  omega

theorem slice1 (w : Int) (h0 : 0 ≤ w) (h1 : w < 4294967296) : Go.bits .and .u32 w 4293918720 = w / 1048576 % 4096 * 1048576 := by
  rw [and_nat w _ h0 h1 (by decide) (by decide), show ((4293918720 : Int).toNat) = 2 ^ 20 * (2 ^ 12 - 1) from rfl, nat_slice]
  rw [show (2 : Nat) ^ 20 = 1048576 from rfl, show (2 : Nat) ^ 12 = 4096 from rfl]
  omega

theorem slice4 (w : Int) (h0 : 0 ≤ w) (h1 : w < 4294967296) : Go.bits .and .u32 w 4294963200 = w / 4096 % 1048576 * 4096 := by
  rw [and_nat w _ h0 h1 (by decide) (by decide), show ((4294963200 : Int).toNat) = 2 ^ 12 * (2 ^ 20 - 1) from rfl, nat_slice]
  rw [show (2 : Nat) ^ 20 = 1048576 from rfl, show (2 : Nat) ^ 12 = 4096 from rfl]
  omega

theorem slice2 (w : Int) (h0 : 0 ≤ w) (h1 : w < 4294967296) : Go.bits .and .u32 w 4261416832 = w / 33554432 % 128 * 33554432 + w / 128 % 32 * 128 := by
  rw [and_nat w _ h0 h1 (by decide) (by decide), show ((4261416832 : Int).toNat) = (2 ^ 25 * (2 ^ 7 - 1)) ||| (2 ^ 7 * (2 ^ 5 - 1)) from by decide]
  rw [Nat.and_or_distrib_left, nat_slice, nat_slice]
  have hy : 2 ^ 7 * (w.toNat / 2 ^ 7 % 2 ^ 5) < 2 ^ 25 := by
    rw [show (2 : Nat) ^ 7 = 128 from rfl, show (2 : Nat) ^ 5 = 32 from rfl, show (2 : Nat) ^ 25 = 33554432 from rfl]
    omega
  rw [← Nat.two_pow_add_eq_or_of_lt hy]
  rw [show (2 : Nat) ^ 7 = 128 from rfl, show (2 : Nat) ^ 5 = 32 from rfl, show (2 : Nat) ^ 25 = 33554432 from rfl]
  omega

theorem backp1 (w : Int) (h0 : 0 ≤ w) (h1 : w < 4294967296) : p1 (g1 w % 4294967296) = Go.bits .and .u32 w 4293918720 ∧ g1 (Go.bits .and .u32 w 4293918720) = g1 w := by
  rw [slice1 w h0 h1]
  constructor
  · unfold p1 g1
    split <;> omega
  · unfold g1
    (repeat' split) <;> omega

theorem backp2 (w : Int) (h0 : 0 ≤ w) (h1 : w < 4294967296) : p2 (g2 w % 4294967296) = Go.bits .and .u32 w 4261416832 ∧ g2 (Go.bits .and .u32 w 4261416832) = g2 w := by
  rw [slice2 w h0 h1]
  constructor
  · unfold p2 g2
    split <;> omega
  · unfold g2
    (repeat' split) <;> omega

theorem backp4 (w : Int) (h0 : 0 ≤ w) (h1 : w < 4294967296) : p4 (g4 w % 4294967296) = Go.bits .and .u32 w 4294963200 ∧ g4 (Go.bits .and .u32 w 4294963200) = g4 w := by
  rw [slice4 w h0 h1]
  constructor
  · unfold p4 g4
    split <;> omega
  · unfold g4
    (repeat' split) <;> omega

theorem backp3 (w : Int) (h0 : 0 ≤ w) (h1 : w < 4294967296) : p3 (g3 w % 4294967296) = Go.bits .and .u32 w 4261416832 ∧ g3 (Go.bits .and .u32 w 4261416832) = g3 w := by
  have hs : w / 2147483648 = w / 33554432 / 64 := by omega
  have ht : w / 256 = w / 128 / 2 := by omega
  have e : Go.bits .and .u32 w 4261416832 = w / 2147483648 % 2 * 2147483648 + w / 128 % 2 * 128 + w / 33554432 % 64 * 33554432 + w / 256 % 16 * 256 := by
    rw [slice2 w h0 h1, hs, ht]; omega
  constructor
  · rw [e]
    exact p3_of _ _ _ _ _ (by omega) (by omega) (by omega) (by omega) (by omega) (by omega) (by rw [g3_is])
  · rw [e, g3_of _ _ _ _ (by omega) (by omega) (by omega) (by omega) (by omega) (by omega), g3_is]

theorem backp5 (w : Int) (h0 : 0 ≤ w) (h1 : w < 4294967296) : p5 (g5 w % 4294967296) = Go.bits .and .u32 w 4294963200 ∧ g5 (Go.bits .and .u32 w 4294963200) = g5 w := by
  have hs : w / 2147483648 = w / 4096 / 524288 := by omega
  have ht : w / 1048576 = w / 4096 / 256 := by omega
  have hv : w / 2097152 = w / 4096 / 512 := by omega
  have e : Go.bits .and .u32 w 4294963200 = w / 2147483648 % 2 * 2147483648 + w / 4096 % 256 * 4096 + w / 1048576 % 2 * 1048576 + w / 2097152 % 1024 * 2097152 := by
    rw [slice4 w h0 h1, hs, ht, hv]; omega
  constructor
  · rw [e]
    exact p5_of _ _ _ _ _ (by omega) (by omega) (by omega) (by omega) (by omega) (by omega) (by rw [g5_is])
  · rw [e, g5_of _ _ _ _ (by omega) (by omega) (by omega) (by omega) (by omega) (by omega), g5_is]

theorem mask1 : pintleref02_Mask.f 40 1 = some 4293918720 := by decide +kernel

theorem back1 (w : Int) (h0 : 0 ≤ w) (h1 : w < 4294967296) : putR 1 (getN 1 w) = (Go.bits .and .u32 w 4293918720, true) ∧ getN 1 (Go.bits .and .u32 w 4293918720) = getN 1 w := by
  obtain ⟨e1, e2⟩ := backp1 w h0 h1
  rw [getN_1 w, getN_1]
  refine ⟨?_, e2⟩
  unfold putR
  rw [putN_1, e1, getN_1, e2, if_pos ⟨by decide, by decide, rfl⟩]

theorem mask2 : pintleref02_Mask.f 40 2 = some 4261416832 := by decide +kernel

theorem back2 (w : Int) (h0 : 0 ≤ w) (h1 : w < 4294967296) : putR 2 (getN 2 w) = (Go.bits .and .u32 w 4261416832, true) ∧ getN 2 (Go.bits .and .u32 w 4261416832) = getN 2 w := by
  obtain ⟨e1, e2⟩ := backp2 w h0 h1
  rw [getN_2 w, getN_2]
  refine ⟨?_, e2⟩
  unfold putR
  rw [putN_2, e1, getN_2, e2, if_pos ⟨by decide, by decide, rfl⟩]

theorem mask3 : pintleref02_Mask.f 40 3 = some 4261416832 := by decide +kernel

theorem back3 (w : Int) (h0 : 0 ≤ w) (h1 : w < 4294967296) : putR 3 (getN 3 w) = (Go.bits .and .u32 w 4261416832, true) ∧ getN 3 (Go.bits .and .u32 w 4261416832) = getN 3 w := by
  obtain ⟨e1, e2⟩ := backp3 w h0 h1
  rw [getN_3 w, getN_3]
  refine ⟨?_, e2⟩
  unfold putR
  rw [putN_3, e1, getN_3, e2, if_pos ⟨by decide, by decide, rfl⟩]

theorem mask4 : pintleref02_Mask.f 40 4 = some 4294963200 := by decide +kernel

theorem back4 (w : Int) (h0 : 0 ≤ w) (h1 : w < 4294967296) : putR 4 (getN 4 w) = (Go.bits .and .u32 w 4294963200, true) ∧ getN 4 (Go.bits .and .u32 w 4294963200) = getN 4 w := by
  obtain ⟨e1, e2⟩ := backp4 w h0 h1
  rw [getN_4 w, getN_4]
  refine ⟨?_, e2⟩
  unfold putR
  rw [putN_4, e1, getN_4, e2, if_pos ⟨by decide, by decide, rfl⟩]

theorem mask5 : pintleref02_Mask.f 40 5 = some 4294963200 := by decide +kernel

theorem back5 (w : Int) (h0 : 0 ≤ w) (h1 : w < 4294967296) : putR 5 (getN 5 w) = (Go.bits .and .u32 w 4294963200, true) ∧ getN 5 (Go.bits .and .u32 w 4294963200) = getN 5 w := by
  obtain ⟨e1, e2⟩ := backp5 w h0 h1
  rw [getN_5 w, getN_5]
  refine ⟨?_, e2⟩
  unfold putR
  rw [putN_5, e1, getN_5, e2, if_pos ⟨by decide, by decide, rfl⟩]

theorem ImmBack : pintlelaw02_ImmBack.Pure := by
  intro a w ha hw
  have hb := wf_u8 ha
  have hc := wf_u32 hw
  refine ⟨40, ?_⟩
  unfold pintlelaw02_ImmBack.f imm_Get.f
  rw [form_is a hb.1 hb.2]
  have hf : a % 5 = 0 ∨ a % 5 = 1 ∨ a % 5 = 2 ∨ a % 5 = 3 ∨ a % 5 = 4 := by omega
  have hl := lives_is 40 (by decide)
  rw [get_is 34 _ w hc.1 hc.2, obind, obind, put_is 29, obind]
  have fin : ∀ (f m : Int), pintleref02_Mask.f 40 f = some m → (0 ≤ m ∧ m < 4294967296) → putR f (getN f w) = (Go.bits .and .u32 w m, true) ∧ getN f (Go.bits .and .u32 w m) = getN f w →
      (if (putR f (getN f w)).2 = true then (pintleref02_Mask.f 40 f).bind fun t163 => (if (putR f (getN f w)).1 = Go.bits .and .u32 w t163 then ((imm_get.f 40 f (putR f (getN f w)).1).bind fun t125 => some t125).bind fun t164 => (if t164 = getN f w then (pintlelaw02_lives.f 40).bind fun t165 => some t165 else some false) else some false) else some false) = some true := by
    intro f m hm hr h
    have hx : 0 ≤ Go.bits .and .u32 w m ∧ Go.bits .and .u32 w m < 4294967296 := by
      have e : Go.bits .and .u32 w m = IntKind.u32.wrap ((BitVec.ofInt 32 w &&& BitVec.ofInt 32 m).toNat : Int) := rfl
      rw [e, IntKind.wrap_u32]; omega
    rw [h.1, if_pos (show (Go.bits .and .u32 w m, true).2 = true from rfl), hm, obind, show (Go.bits .and .u32 w m, true).1 = Go.bits .and .u32 w m from rfl, if_pos rfl, get_is 34 f _ hx.1 hx.2, obind, obind, if_pos h.2, hl, obind]
  rcases hf with h | h | h | h | h
  · rw [h]; exact fin 1 _ mask1 (by decide) (back1 w hc.1 hc.2)
  · rw [h]; exact fin 2 _ mask2 (by decide) (back2 w hc.1 hc.2)
  · rw [h]; exact fin 3 _ mask3 (by decide) (back3 w hc.1 hc.2)
  · rw [h]; exact fin 4 _ mask4 (by decide) (back4 w hc.1 hc.2)
  · rw [h]; exact fin 5 _ mask5 (by decide) (back5 w hc.1 hc.2)

end Go.Proofs.Ytkbbphcfhgjapaa.Pure
