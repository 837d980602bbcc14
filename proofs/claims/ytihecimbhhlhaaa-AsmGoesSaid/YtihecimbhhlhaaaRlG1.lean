/- RlA, RlB, RlC: texts put together. -/
import Derived.Test.YtihecimbhhlhaaaRsG1
import Derived.Laws.BitsLemmas
import Derived.Test.YtihecimbhhlhaaaRsG3
import Derived.Test.YtihecimbhhlhaaaRsG5
import Derived.Test.YtihecimbhhlhaaaRsG7
section
namespace Go.Proofs.Ytihecimbhhlhaaa.ImmPlain
set_option linter.unusedVariables false
open Go.RowKit Go.Proofs.YtihecimbhhlhaaaW.PrintWords Go.Proofs.YtihecimbhhlhaaaW.PrintLast Go.Proofs.YtihecimbhhlhaaaW.PrintMore
def g1 (w : Int) : Int := if w / 1048576 % 4096 < 2048 then w / 1048576 % 4096 else w / 1048576 % 4096 - 4096
def g2 (w : Int) : Int := if w / 33554432 % 128 * 32 + w / 128 % 32 < 2048 then w / 33554432 % 128 * 32 + w / 128 % 32 else w / 33554432 % 128 * 32 + w / 128 % 32 - 4096
def g3 (w : Int) : Int := if w / 2147483648 % 2 * 4096 + w / 128 % 2 * 2048 + w / 33554432 % 64 * 32 + w / 256 % 16 * 2 < 4096 then w / 2147483648 % 2 * 4096 + w / 128 % 2 * 2048 + w / 33554432 % 64 * 32 + w / 256 % 16 * 2 else w / 2147483648 % 2 * 4096 + w / 128 % 2 * 2048 + w / 33554432 % 64 * 32 + w / 256 % 16 * 2 - 8192
def g4 (w : Int) : Int := if w / 4096 % 1048576 * 4096 < 2147483648 then w / 4096 % 1048576 * 4096 else w / 4096 % 1048576 * 4096 - 4294967296
def g5 (w : Int) : Int := if w / 2147483648 % 2 * 1048576 + w / 4096 % 256 * 4096 + w / 1048576 % 2 * 2048 + w / 2097152 % 1024 * 2 < 1048576 then w / 2147483648 % 2 * 1048576 + w / 4096 % 256 * 4096 + w / 1048576 % 2 * 2048 + w / 2097152 % 1024 * 2 else w / 2147483648 % 2 * 1048576 + w / 4096 % 256 * 4096 + w / 1048576 % 2 * 2048 + w / 2097152 % 1024 * 2 - 2097152
def p1 (n : Int) : Int := n % 4096 * 1048576
def p2 (n : Int) : Int := n / 32 % 128 * 33554432 + n % 32 * 128
def p3 (n : Int) : Int := n / 4096 % 2 * 2147483648 + n / 2048 % 2 * 128 + n / 32 % 64 * 33554432 + n / 2 % 16 * 256
def p4 (n : Int) : Int := n / 4096 % 1048576 * 4096
def p5 (n : Int) : Int := n / 1048576 % 2 * 2147483648 + n / 4096 % 256 * 4096 + n / 2048 % 2 * 1048576 + n / 2 % 1024 * 2097152
def getN (form w : Int) : Int := if form = 1 then g1 w else if form = 2 then g2 w else if form = 3 then g3 w else if form = 4 then g4 w else if form = 5 then g5 w else 0
def putN (form n : Int) : Int := if form = 1 then p1 n else if form = 2 then p2 n else if form = 3 then p3 n else if form = 4 then p4 n else if form = 5 then p5 n else 0
theorem getN_1 (w : Int) : getN 1 w = g1 w := by
 unfold getN
 rw [if_pos (show (1 : Int) = 1 from rfl)]
theorem putN_1 (w : Int) : putN 1 w = p1 w := by
 unfold putN
 rw [if_pos (show (1 : Int) = 1 from rfl)]
theorem getN_2 (w : Int) : getN 2 w = g2 w := by
 unfold getN
 rw [if_neg (show ¬((2 : Int) = 1) by decide)]
 rw [if_pos (show (2 : Int) = 2 from rfl)]
theorem putN_2 (w : Int) : putN 2 w = p2 w := by
 unfold putN
 rw [if_neg (show ¬((2 : Int) = 1) by decide)]
 rw [if_pos (show (2 : Int) = 2 from rfl)]
theorem getN_3 (w : Int) : getN 3 w = g3 w := by
 unfold getN
 rw [if_neg (show ¬((3 : Int) = 1) by decide)]
 rw [if_neg (show ¬((3 : Int) = 2) by decide)]
 rw [if_pos (show (3 : Int) = 3 from rfl)]
theorem putN_3 (w : Int) : putN 3 w = p3 w := by
 unfold putN
 rw [if_neg (show ¬((3 : Int) = 1) by decide)]
 rw [if_neg (show ¬((3 : Int) = 2) by decide)]
 rw [if_pos (show (3 : Int) = 3 from rfl)]
theorem getN_4 (w : Int) : getN 4 w = g4 w := by
 unfold getN
 rw [if_neg (show ¬((4 : Int) = 1) by decide)]
 rw [if_neg (show ¬((4 : Int) = 2) by decide)]
 rw [if_neg (show ¬((4 : Int) = 3) by decide)]
 rw [if_pos (show (4 : Int) = 4 from rfl)]
theorem putN_4 (w : Int) : putN 4 w = p4 w := by
 unfold putN
 rw [if_neg (show ¬((4 : Int) = 1) by decide)]
 rw [if_neg (show ¬((4 : Int) = 2) by decide)]
 rw [if_neg (show ¬((4 : Int) = 3) by decide)]
 rw [if_pos (show (4 : Int) = 4 from rfl)]
theorem getN_5 (w : Int) : getN 5 w = g5 w := by
 unfold getN
 rw [if_neg (show ¬((5 : Int) = 1) by decide)]
 rw [if_neg (show ¬((5 : Int) = 2) by decide)]
 rw [if_neg (show ¬((5 : Int) = 3) by decide)]
 rw [if_neg (show ¬((5 : Int) = 4) by decide)]
 rw [if_pos (show (5 : Int) = 5 from rfl)]
theorem putN_5 (w : Int) : putN 5 w = p5 w := by
 unfold putN
 rw [if_neg (show ¬((5 : Int) = 1) by decide)]
 rw [if_neg (show ¬((5 : Int) = 2) by decide)]
 rw [if_neg (show ¬((5 : Int) = 3) by decide)]
 rw [if_neg (show ¬((5 : Int) = 4) by decide)]
 rw [if_pos (show (5 : Int) = 5 from rfl)]
theorem wraps_u32 (n : Int) (h₀ : 0 ≤ n) (h₁ : n < 2 ^ 32) : IntKind.u32.wrap n = n := by rw [IntKind.wrap_u32]; omega
theorem and_mask (i : Nat) (hi : i ≤ 32) (x : Int) (h0 : 0 ≤ x) (h1 : x < 4294967296) : Go.bits .and .u32 x (2 ^ i - 1) = x % 2 ^ i :=
 bits_mask .u32 32 (by decide) wraps_u32 i hi x h0 h1
theorem or_add (i : Nat) (x y : Int) (hx0 : 0 ≤ x) (hx : x % 2 ^ i = 0) (hx1 : x < 4294967296) (hy0 : 0 ≤ y) (hy : y < 2 ^ i) (hy1 : y < 4294967296) : Go.bits .or .u32 x y = x + y :=
 bits_join .u32 32 (by decide) wraps_u32 i x y hx0 hx hx1 hy0 hy hy1
theorem or_zero (y : Int) (hy0 : 0 ≤ y) (hy1 : y < 4294967296) : Go.bits .or .u32 0 y = y := by
 rw [or_add 32 0 y (by omega) (by decide) (by omega) hy0 hy1 hy1]; omega
theorem or_range (x y : Int) (hx0 : 0 ≤ x) (hx1 : x < 4294967296) (hy0 : 0 ≤ y) (hy1 : y < 4294967296) : 0 ≤ Go.bits .or .u32 x y ∧ Go.bits .or .u32 x y < 4294967296 := by
 have e : Go.bits .or .u32 x y = IntKind.u32.wrap ((BitVec.ofInt 32 x ||| BitVec.ofInt 32 y).toNat : Int) := rfl
 rw [e, IntKind.wrap_u32]
 omega
/-- What is joined may be joined in another order. -/
theorem or_nat (x y : Int) (hx0 : 0 ≤ x) (hx1 : x < 4294967296) (hy0 : 0 ≤ y) (hy1 : y < 4294967296) : Go.bits .or .u32 x y = ((x.toNat ||| y.toNat : Nat) : Int) := by
 obtain ⟨a, rfl⟩ := Int.eq_ofNat_of_zero_le hx0
 obtain ⟨b, rfl⟩ := Int.eq_ofNat_of_zero_le hy0
 exact (bits_nat .u32 32 (by decide) wraps_u32 a b (by omega) (by omega)).2
theorem or_swap (x y z : Int) (hx0 : 0 ≤ x) (hx1 : x < 4294967296) (hy0 : 0 ≤ y) (hy1 : y < 4294967296) (hz0 : 0 ≤ z) (hz1 : z < 4294967296) :
 Go.bits .or .u32 (Go.bits .or .u32 x y) z = Go.bits .or .u32 (Go.bits .or .u32 x z) y := by
 rw [or_nat x y hx0 hx1 hy0 hy1, or_nat x z hx0 hx1 hz0 hz1]
 have b1 : x.toNat ||| y.toNat < 2 ^ 32 := Nat.or_lt_two_pow (by omega) (by omega)
 have b2 : x.toNat ||| z.toNat < 2 ^ 32 := Nat.or_lt_two_pow (by omega) (by omega)
 rw [or_nat _ _ (Int.natCast_nonneg _) (by omega) hz0 hz1, or_nat _ _ (Int.natCast_nonneg _) (by omega) hy0 hy1]
 rw [Int.toNat_natCast, Int.toNat_natCast, Nat.or_assoc, Nat.or_comm y.toNat, ← Nat.or_assoc]
theorem g3_of (a b c d : Int) (ha : a = 0 ∨ a = 1) (hb : b = 0 ∨ b = 1) (hc0 : 0 ≤ c) (hc1 : c < 64) (hd0 : 0 ≤ d) (hd1 : d < 16) :
 g3 (a * 2147483648 + b * 128 + c * 33554432 + d * 256) = b * 2048 + c * 32 + d * 2 - a * 4096 := by
 have e1 : (a * 2147483648 + b * 128 + c * 33554432 + d * 256) / 2147483648 % 2 = a := by rcases ha with rfl | rfl <;> omega
 have e2 : (a * 2147483648 + b * 128 + c * 33554432 + d * 256) / 128 % 2 = b := by rcases hb with rfl | rfl <;> omega
 have e3 : (a * 2147483648 + b * 128 + c * 33554432 + d * 256) / 33554432 % 64 = c := by rcases hb with rfl | rfl <;> rcases ha with rfl | rfl <;> omega
 have e4 : (a * 2147483648 + b * 128 + c * 33554432 + d * 256) / 256 % 16 = d := by rcases hb with rfl | rfl <;> rcases ha with rfl | rfl <;> omega
 unfold g3
 rw [e1, e2, e3, e4]
 rcases ha with rfl | rfl <;> rcases hb with rfl | rfl <;> split <;> omega
theorem g5_of (a b c d : Int) (ha : a = 0 ∨ a = 1) (hc : c = 0 ∨ c = 1) (hb0 : 0 ≤ b) (hb1 : b < 256) (hd0 : 0 ≤ d) (hd1 : d < 1024) :
 g5 (a * 2147483648 + b * 4096 + c * 1048576 + d * 2097152) = b * 4096 + c * 2048 + d * 2 - a * 1048576 := by
 have e1 : (a * 2147483648 + b * 4096 + c * 1048576 + d * 2097152) / 2147483648 % 2 = a := by rcases ha with rfl | rfl <;> rcases hc with rfl | rfl <;> omega
 have e2 : (a * 2147483648 + b * 4096 + c * 1048576 + d * 2097152) / 4096 % 256 = b := by rcases ha with rfl | rfl <;> rcases hc with rfl | rfl <;> omega
 have e3 : (a * 2147483648 + b * 4096 + c * 1048576 + d * 2097152) / 1048576 % 2 = c := by rcases ha with rfl | rfl <;> rcases hc with rfl | rfl <;> omega
 have e4 : (a * 2147483648 + b * 4096 + c * 1048576 + d * 2097152) / 2097152 % 1024 = d := by rcases ha with rfl | rfl <;> rcases hc with rfl | rfl <;> omega
 unfold g5
 rw [e1, e2, e3, e4]
 rcases ha with rfl | rfl <;> rcases hc with rfl | rfl <;> split <;> omega
theorem g3_is (w : Int) : g3 w = w / 128 % 2 * 2048 + w / 33554432 % 64 * 32 + w / 256 % 16 * 2 - w / 2147483648 % 2 * 4096 := by
 unfold g3
 have h1 : w / 2147483648 % 2 = 0 ∨ w / 2147483648 % 2 = 1 := by omega
 rcases h1 with h | h <;> rw [h] <;> split <;> omega
theorem g5_is (w : Int) : g5 w = w / 4096 % 256 * 4096 + w / 1048576 % 2 * 2048 + w / 2097152 % 1024 * 2 - w / 2147483648 % 2 * 1048576 := by
 unfold g5
 have h1 : w / 2147483648 % 2 = 0 ∨ w / 2147483648 % 2 = 1 := by omega
 rcases h1 with h | h <;> rw [h] <;> split <;> omega
end Go.Proofs.Ytihecimbhhlhaaa.ImmPlain
end
section
namespace Go.Proofs.Ytihecimbhhlhaaa.Pure
set_option linter.unusedVariables false
open Go.RowKit Go.Proofs.Ytihecimbhhlhaaa.PRs Go.Proofs.YtihecimbhhlhaaaW.PrintWords Go.Proofs.YtihecimbhhlhaaaW.PrintLast Go.Proofs.YtihecimbhhlhaaaW.PrintMore ImmPlain
theorem obind {α β : Type} (a : α) (f : α → Option β) : Option.bind (some a) f = f a := by
 have h : ∀ x, x = some a → Option.bind x f = f a := fun x hx => by rw [hx]; rfl
 exact h _ rfl
theorem shrC (w : Int) (n : Nat) (h : n ≤ 32) : shr .u32 w (n : Int) = w / 2 ^ n := by
 unfold shr; rw [Int.toNat_natCast, Nat.min_eq_left (by simpa [IntKind.bits] using h)]
theorem mask_is (m : Nat) (hm : m ≤ 32) : imm_mask.f m = some (2 ^ m - 1) := by
 unfold imm_mask.f
 rw [if_pos (by omega)]
 unfold shl
 rw [Int.toNat_natCast, Nat.min_eq_left (by simpa [IntKind.bits] using hm), IntKind.wrap_u32, Int.one_mul]
 have : m < 32 ∨ m = 32 := by omega
 rcases this with h | rfl
 · have h2' : 2 ^ m ≤ 2 ^ 31 := Nat.pow_le_pow_right (by decide) (by omega)
   have h2 : (2 : Int) ^ m ≤ 2147483648 := by
    have := Int.ofNat_le.mpr h2'
    rw [Int.natCast_pow, Int.natCast_pow] at this
    exact this
   have h3 : (0 : Int) < 2 ^ m := Int.pow_pos (by decide)
   congr 1
   omega
 · rfl
/-- A piece of a word, put to its place. -/
theorem piece_is (w : Int) (f m t : Nat) (hf : f ≤ 31) (hm : m ≤ 32) (ht : t ≤ 31) (F M T : Int) (eF : (2 : Int) ^ f = F) (eM : (2 : Int) ^ m = M) (eT : (2 : Int) ^ t = T) (hMT : M * T ≤ 4294967296) (hw0 : 0 ≤ w) (hw1 : w < 4294967296) :
 shl .u32 (Go.bits .and .u32 (shr .u32 w (f : Int)) (2 ^ m - 1)) (t : Int) = w / F % M * T := by
 subst eF eM eT
 have hx : (w / 2 ^ f : Int) < 4294967296 ∧ 0 ≤ (w / 2 ^ f : Int) := by
  have hpos : (0 : Int) < 2 ^ f := Int.pow_pos (by decide)
  exact ⟨Int.lt_of_le_of_lt (Int.ediv_le_self _ hw0) hw1, Int.ediv_nonneg hw0 (Int.le_of_lt hpos)⟩
 rw [shrC w f (by omega), and_mask m hm _ hx.2 hx.1]
 unfold shl
 rw [Int.toNat_natCast, Nat.min_eq_left (by simp [IntKind.bits]; omega), IntKind.wrap_u32]
 have hM : (0 : Int) < 2 ^ m := Int.pow_pos (by decide)
 have hT : (0 : Int) < 2 ^ t := Int.pow_pos (by decide)
 have a0 : 0 ≤ w / 2 ^ f % 2 ^ m := Int.emod_nonneg _ (by omega)
 have a1 : w / 2 ^ f % 2 ^ m < 2 ^ m := Int.emod_lt_of_pos _ hM
 have a2 : w / 2 ^ f % 2 ^ m * 2 ^ t < 2 ^ m * 2 ^ t := Int.mul_lt_mul_of_pos_right a1 hT
 exact Int.emod_eq_of_lt (Int.mul_nonneg a0 (by omega)) (by omega)
/-- One round of the loop over the pieces. -/
theorem get_step (k : Nat) (w many acc : Int) (l : List S98) (i : Nat) (hi : i < l.length) (hl : l.length ≤ 4) (f m t : Nat) (hp : l.getD i z98 = ⟨f, m, t⟩) (hf : f ≤ 31) (hm : m ≤ 32) (ht : t ≤ 31) (F M T : Int) (eF : (2 : Int) ^ f = F) (eM : (2 : Int) ^ m = M) (eT : (2 : Int) ^ t = T) (hMT : M * T ≤ 4294967296) (hw0 : 0 ≤ w) (hw1 : w < 4294967296) :
 imm_get.l0 (k + 1) w many acc l l.length i = imm_get.l0 k w many (Go.bits .or .u32 acc (w / F % M * T)) l l.length ((i + 1 : Nat) : Int) := by
 have e1 : rd_T98 l i = ⟨f, m, t⟩ := by simpa [rd_T98] using hp
 simp only [imm_get.l0, e1]
 rw [if_pos (by omega), if_pos (by omega), if_pos (by omega), if_pos (by omega), mask_is m hm]
 simp only [Option.bind_some]
 rw [if_pos (by omega)]
 have e3 : wrap64 ((i : Int) + 1) = ((i + 1 : Nat) : Int) := by unfold wrap64; omega
 rw [piece_is w f m t hf hm ht F M T eF eM eT hMT hw0 hw1, e3]
theorem sext12 (n : Int) (h0 : 0 ≤ n) (hn : n < 4096) : num_Sext.f n 12 = some ((if n < 2048 then n else n - 4096) % 4294967296) := by
 have e1 : wrap64 (32 - 12) = 20 := by unfold wrap64; omega
 have e2 : shl .u32 n 20 = n * 1048576 := by
  show IntKind.u32.wrap (n * 2 ^ 20) = _
  rw [IntKind.wrap_u32]; omega
 have e3 : shr .i32 (wrap32 (n * 1048576)) 20 = (if n < 2048 then n else n - 4096) := by
  show wrap32 (n * 1048576) / 2 ^ 20 = _
  unfold wrap32; split <;> omega
 unfold num_Sext.f
 rw [if_neg (by omega), if_neg (by omega), e1, if_pos (by omega), e2, e3]
theorem sext13 (n : Int) (h0 : 0 ≤ n) (hn : n < 8192) : num_Sext.f n 13 = some ((if n < 4096 then n else n - 8192) % 4294967296) := by
 have e1 : wrap64 (32 - 13) = 19 := by unfold wrap64; omega
 have e2 : shl .u32 n 19 = n * 524288 := by
  show IntKind.u32.wrap (n * 2 ^ 19) = _
  rw [IntKind.wrap_u32]; omega
 have e3 : shr .i32 (wrap32 (n * 524288)) 19 = (if n < 4096 then n else n - 8192) := by
  show wrap32 (n * 524288) / 2 ^ 19 = _
  unfold wrap32; split <;> omega
 unfold num_Sext.f
 rw [if_neg (by omega), if_neg (by omega), e1, if_pos (by omega), e2, e3]
theorem sext21 (n : Int) (h0 : 0 ≤ n) (hn : n < 2097152) : num_Sext.f n 21 = some ((if n < 1048576 then n else n - 2097152) % 4294967296) := by
 have e1 : wrap64 (32 - 21) = 11 := by unfold wrap64; omega
 have e2 : shl .u32 n 11 = n * 2048 := by
  show IntKind.u32.wrap (n * 2 ^ 11) = _
  rw [IntKind.wrap_u32]; omega
 have e3 : shr .i32 (wrap32 (n * 2048)) 11 = (if n < 1048576 then n else n - 2097152) := by
  show wrap32 (n * 2048) / 2 ^ 11 = _
  unfold wrap32; split <;> omega
 unfold num_Sext.f
 rw [if_neg (by omega), if_neg (by omega), e1, if_pos (by omega), e2, e3]
theorem signed_is (n m : Int) (h0 : -2147483648 ≤ n) (h1 : n ≤ 2147483647) (hm : m % 4294967296 = n % 4294967296) : num_Signed.f m = some n := by
 unfold num_Signed.f
 have : wrap32 m = n := by unfold wrap32; omega
 rw [this]
theorem get_end (k : Nat) (w many acc n m : Int) (l : List S98) (hs : num_Sext.f acc many = some m) (h0 : -2147483648 ≤ n) (h1 : n ≤ 2147483647) (hm : m % 4294967296 = n % 4294967296) :
 imm_get.l0 (k + 1) w many acc l l.length (l.length : Nat) = some n := by
 simp only [imm_get.l0]
 rw [if_neg (by omega), hs, obind, signed_is n m h0 h1 hm, obind]
theorem get1 (k : Nat) (w : Int) (hw0 : 0 ≤ w) (hw1 : w < 4294967296) : imm_get.f (k + 6) 1 w = some (getN 1 w) := by
 rw [getN_1]
 unfold imm_get.f imm_pieces.f
 rw [if_pos (show (1 : Int) = 1 from rfl)]
 rw [obind]
 refine Eq.trans (get_step (k + 5) w 12 _ [⟨20, 12, 0⟩] 0 (by decide) (by decide) 20 12 0 rfl (by decide) (by decide) (by decide) 1048576 4096 1 rfl rfl rfl (by decide) hw0 hw1) ?_
 rw [or_zero _ (by omega) (by omega)]
 refine get_end (k + 4) w 12 _ _ _ [⟨20, 12, 0⟩] (sext12 _ (by omega) (by omega)) ?_ ?_ ?_
 · unfold g1; split <;> omega
 · unfold g1; split <;> omega
 · unfold g1; (repeat' split) <;> omega
theorem get2 (k : Nat) (w : Int) (hw0 : 0 ≤ w) (hw1 : w < 4294967296) : imm_get.f (k + 6) 2 w = some (getN 2 w) := by
 rw [getN_2]
 unfold imm_get.f imm_pieces.f
 rw [if_neg (show ¬((2 : Int) = 1) by decide)]
 rw [if_pos (show (2 : Int) = 2 from rfl)]
 rw [obind]
 refine Eq.trans (get_step (k + 5) w 12 _ [⟨25, 7, 5⟩, ⟨7, 5, 0⟩] 0 (by decide) (by decide) 25 7 5 rfl (by decide) (by decide) (by decide) 33554432 128 32 rfl rfl rfl (by decide) hw0 hw1) ?_
 rw [or_zero _ (by omega) (by omega)]
 refine Eq.trans (get_step (k + 4) w 12 _ [⟨25, 7, 5⟩, ⟨7, 5, 0⟩] 1 (by decide) (by decide) 7 5 0 rfl (by decide) (by decide) (by decide) 128 32 1 rfl rfl rfl (by decide) hw0 hw1) ?_
 rw [or_add 5 _ _ (by omega) (by omega) (by omega) (by omega) (by omega) (by omega)]
 refine get_end (k + 3) w 12 _ _ _ [⟨25, 7, 5⟩, ⟨7, 5, 0⟩] (sext12 _ (by omega) (by omega)) ?_ ?_ ?_
 · unfold g2; split <;> omega
 · unfold g2; split <;> omega
 · unfold g2; (repeat' split) <;> omega
theorem get3 (k : Nat) (w : Int) (hw0 : 0 ≤ w) (hw1 : w < 4294967296) : imm_get.f (k + 6) 3 w = some (getN 3 w) := by
 rw [getN_3]
 unfold imm_get.f imm_pieces.f
 rw [if_neg (show ¬((3 : Int) = 1) by decide)]
 rw [if_neg (show ¬((3 : Int) = 2) by decide)]
 rw [if_pos (show (3 : Int) = 3 from rfl)]
 rw [obind]
 refine Eq.trans (get_step (k + 5) w 13 _ [⟨31, 1, 12⟩, ⟨7, 1, 11⟩, ⟨25, 6, 5⟩, ⟨8, 4, 1⟩] 0 (by decide) (by decide) 31 1 12 rfl (by decide) (by decide) (by decide) 2147483648 2 4096 rfl rfl rfl (by decide) hw0 hw1) ?_
 rw [or_zero _ (by omega) (by omega)]
 refine Eq.trans (get_step (k + 4) w 13 _ [⟨31, 1, 12⟩, ⟨7, 1, 11⟩, ⟨25, 6, 5⟩, ⟨8, 4, 1⟩] 1 (by decide) (by decide) 7 1 11 rfl (by decide) (by decide) (by decide) 128 2 2048 rfl rfl rfl (by decide) hw0 hw1) ?_
 rw [or_add 12 _ _ (by omega) (by omega) (by omega) (by omega) (by omega) (by omega)]
 refine Eq.trans (get_step (k + 3) w 13 _ [⟨31, 1, 12⟩, ⟨7, 1, 11⟩, ⟨25, 6, 5⟩, ⟨8, 4, 1⟩] 2 (by decide) (by decide) 25 6 5 rfl (by decide) (by decide) (by decide) 33554432 64 32 rfl rfl rfl (by decide) hw0 hw1) ?_
 rw [or_add 11 _ _ (by omega) (by omega) (by omega) (by omega) (by omega) (by omega)]
 refine Eq.trans (get_step (k + 2) w 13 _ [⟨31, 1, 12⟩, ⟨7, 1, 11⟩, ⟨25, 6, 5⟩, ⟨8, 4, 1⟩] 3 (by decide) (by decide) 8 4 1 rfl (by decide) (by decide) (by decide) 256 16 2 rfl rfl rfl (by decide) hw0 hw1) ?_
 rw [or_add 5 _ _ (by omega) (by omega) (by omega) (by omega) (by omega) (by omega)]
 refine get_end (k + 1) w 13 _ _ _ [⟨31, 1, 12⟩, ⟨7, 1, 11⟩, ⟨25, 6, 5⟩, ⟨8, 4, 1⟩] (sext13 _ (by omega) (by omega)) ?_ ?_ ?_
 · unfold g3; split <;> omega
 · unfold g3; split <;> omega
 · unfold g3; (repeat' split) <;> omega
theorem get4 (k : Nat) (w : Int) (hw0 : 0 ≤ w) (hw1 : w < 4294967296) : imm_get.f (k + 6) 4 w = some (getN 4 w) := by
 rw [getN_4]
 unfold imm_get.f imm_pieces.f
 rw [if_neg (show ¬((4 : Int) = 1) by decide)]
 rw [if_neg (show ¬((4 : Int) = 2) by decide)]
 rw [if_neg (show ¬((4 : Int) = 3) by decide)]
 rw [if_pos (show (4 : Int) = 4 from rfl)]
 rw [obind]
 refine Eq.trans (get_step (k + 5) w 32 _ [⟨12, 20, 12⟩] 0 (by decide) (by decide) 12 20 12 rfl (by decide) (by decide) (by decide) 4096 1048576 4096 rfl rfl rfl (by decide) hw0 hw1) ?_
 rw [or_zero _ (by omega) (by omega)]
 refine get_end (k + 4) w 32 _ _ _ [⟨12, 20, 12⟩] (by unfold num_Sext.f; rw [if_neg (show ¬((32 : Int) < 1) by decide), if_pos (show (32 : Int) ≥ 32 by decide)]) ?_ ?_ ?_
 · unfold g4; split <;> omega
 · unfold g4; split <;> omega
 · unfold g4; split <;> omega
theorem get5 (k : Nat) (w : Int) (hw0 : 0 ≤ w) (hw1 : w < 4294967296) : imm_get.f (k + 6) 5 w = some (getN 5 w) := by
 rw [getN_5]
 unfold imm_get.f imm_pieces.f
 rw [if_neg (show ¬((5 : Int) = 1) by decide)]
 rw [if_neg (show ¬((5 : Int) = 2) by decide)]
 rw [if_neg (show ¬((5 : Int) = 3) by decide)]
 rw [if_neg (show ¬((5 : Int) = 4) by decide)]
 rw [if_pos (show (5 : Int) = 5 from rfl)]
 rw [obind]
 refine Eq.trans (get_step (k + 5) w 21 _ [⟨31, 1, 20⟩, ⟨12, 8, 12⟩, ⟨20, 1, 11⟩, ⟨21, 10, 1⟩] 0 (by decide) (by decide) 31 1 20 rfl (by decide) (by decide) (by decide) 2147483648 2 1048576 rfl rfl rfl (by decide) hw0 hw1) ?_
 rw [or_zero _ (by omega) (by omega)]
 refine Eq.trans (get_step (k + 4) w 21 _ [⟨31, 1, 20⟩, ⟨12, 8, 12⟩, ⟨20, 1, 11⟩, ⟨21, 10, 1⟩] 1 (by decide) (by decide) 12 8 12 rfl (by decide) (by decide) (by decide) 4096 256 4096 rfl rfl rfl (by decide) hw0 hw1) ?_
 rw [or_add 20 _ _ (by omega) (by omega) (by omega) (by omega) (by omega) (by omega)]
 refine Eq.trans (get_step (k + 3) w 21 _ [⟨31, 1, 20⟩, ⟨12, 8, 12⟩, ⟨20, 1, 11⟩, ⟨21, 10, 1⟩] 2 (by decide) (by decide) 20 1 11 rfl (by decide) (by decide) (by decide) 1048576 2 2048 rfl rfl rfl (by decide) hw0 hw1) ?_
 rw [or_add 12 _ _ (by omega) (by omega) (by omega) (by omega) (by omega) (by omega)]
 refine Eq.trans (get_step (k + 2) w 21 _ [⟨31, 1, 20⟩, ⟨12, 8, 12⟩, ⟨20, 1, 11⟩, ⟨21, 10, 1⟩] 3 (by decide) (by decide) 21 10 1 rfl (by decide) (by decide) (by decide) 2097152 1024 2 rfl rfl rfl (by decide) hw0 hw1) ?_
 rw [or_add 11 _ _ (by omega) (by omega) (by omega) (by omega) (by omega) (by omega)]
 refine get_end (k + 1) w 21 _ _ _ [⟨31, 1, 20⟩, ⟨12, 8, 12⟩, ⟨20, 1, 11⟩, ⟨21, 10, 1⟩] (sext21 _ (by omega) (by omega)) ?_ ?_ ?_
 · unfold g5; split <;> omega
 · unfold g5; split <;> omega
 · unfold g5; (repeat' split) <;> omega
theorem getN_none (form w : Int) (hf : form < 1 ∨ 5 < form) : getN form w = 0 := by
 unfold getN
 rw [if_neg (by omega), if_neg (by omega), if_neg (by omega), if_neg (by omega), if_neg (by omega)]
theorem pieces_none (form : Int) (hf : form < 1 ∨ 5 < form) : imm_pieces.f form = some ([], 0) := by
 unfold imm_pieces.f
 rw [if_neg (by omega), if_neg (by omega), if_neg (by omega), if_neg (by omega), if_neg (by omega)]
theorem get_none (k : Nat) (form w : Int) (hf : form < 1 ∨ 5 < form) : imm_get.f (k + 6) form w = some (getN form w) := by
 rw [getN_none form w hf]
 unfold imm_get.f
 rw [pieces_none form hf, obind]
 exact get_end (k + 5) w 0 0 0 0 [] (by unfold num_Sext.f; rw [if_pos (show (0 : Int) < 1 by decide)]) (by decide) (by decide) (by decide)
theorem get_is (k : Nat) (form w : Int) (hw0 : 0 ≤ w) (hw1 : w < 4294967296) : imm_get.f (k + 6) form w = some (getN form w) := by
 by_cases h : form < 1 ∨ 5 < form
 · exact get_none k form w h
 · have : form = 1 ∨ form = 2 ∨ form = 3 ∨ form = 4 ∨ form = 5 := by omega
   rcases this with rfl | rfl | rfl | rfl | rfl
   · exact get1 k w hw0 hw1
   · exact get2 k w hw0 hw1
   · exact get3 k w hw0 hw1
   · exact get4 k w hw0 hw1
   · exact get5 k w hw0 hw1
/-- One round of Put's loop over the pieces. -/
theorem put_step (k : Nat) (form n many acc : Int) (l : List S98) (i : Nat) (hi : i < l.length) (hl : l.length ≤ 4) (f m t : Nat) (hp : l.getD i z98 = ⟨f, m, t⟩) (hf : f ≤ 31) (hm : m ≤ 32) (ht : t ≤ 31) (F M T : Int) (eF : (2 : Int) ^ f = F) (eM : (2 : Int) ^ m = M) (eT : (2 : Int) ^ t = T) (hMT : M * F ≤ 4294967296) :
 imm_Put.l0 (k + 1) form n many acc l l.length i = imm_Put.l0 k form n many (Go.bits .or .u32 acc (n % 4294967296 / T % M * F)) l l.length ((i + 1 : Nat) : Int) := by
 have e1 : rd_T98 l i = ⟨f, m, t⟩ := by simpa [rd_T98] using hp
 simp only [imm_Put.l0, e1]
 rw [if_pos (by omega), if_pos (by omega), if_pos (by omega), if_pos (by omega), mask_is m hm]
 simp only [Option.bind_some]
 rw [if_pos (by omega)]
 have e3 : wrap64 ((i : Int) + 1) = ((i + 1 : Nat) : Int) := by unfold wrap64; omega
 rw [piece_is (n % 4294967296) t m f ht hm hf T M F eT eM eF hMT (by omega) (by omega), e3]
theorem put_end (k : Nat) (form n many acc : Int) (l : List S98) (hm : many ≠ 0) (h0 : 0 ≤ acc) (h1 : acc < 4294967296) :
 imm_Put.l0 (k + 7) form n many acc l l.length (l.length : Nat) = some (if getN form acc = n then (acc, true) else (0, false)) := by
 simp only [imm_Put.l0]
 rw [if_neg (by omega), if_neg hm, get_is k form acc h0 h1, obind]
 split <;> rfl
/-- What Put answers. -/
def putR (form n : Int) : Int × Bool := if 1 ≤ form ∧ form ≤ 5 ∧ getN form (putN form (n % 4294967296)) = n then (putN form (n % 4294967296), true) else (0, false)
theorem put1 (k : Nat) (n : Int) : imm_Put.f (k + 11) 1 n = some (putR 1 n) := by
 have eR : putR 1 n = if getN 1 (p1 (n % 4294967296)) = n then (p1 (n % 4294967296), true) else (0, false) := by
  unfold putR
  rw [putN_1]
  by_cases h : getN 1 (p1 (n % 4294967296)) = n
  · rw [if_pos h, if_pos ⟨by decide, by decide, h⟩]
  · rw [if_neg h, if_neg (fun hh => h hh.2.2)]
 rw [eR]
 unfold imm_Put.f imm_pieces.f
 rw [if_pos (show (1 : Int) = 1 from rfl)]
 rw [obind]
 refine Eq.trans (put_step (k + 10) 1 n 12 _ [⟨20, 12, 0⟩] 0 (by decide) (by decide) 20 12 0 rfl (by decide) (by decide) (by decide) 1048576 4096 1 rfl rfl rfl (by decide)) ?_
 have hu0 : 0 ≤ n % 4294967296 := by omega
 have hu1 : n % 4294967296 < 4294967296 := by omega
 generalize n % 4294967296 = u at hu0 hu1
 rw [or_zero _ (by omega) (by omega)]
 have e : (u / 1 % 4096 * 1048576) = p1 u := by unfold p1; omega
 rw [e]
 have hp : 0 ≤ p1 u ∧ p1 u < 4294967296 := by rw [← e]; omega
 exact put_end (k + 3) 1 n 12 _ [⟨20, 12, 0⟩] (by decide) hp.1 hp.2
theorem put2 (k : Nat) (n : Int) : imm_Put.f (k + 11) 2 n = some (putR 2 n) := by
 have eR : putR 2 n = if getN 2 (p2 (n % 4294967296)) = n then (p2 (n % 4294967296), true) else (0, false) := by
  unfold putR
  rw [putN_2]
  by_cases h : getN 2 (p2 (n % 4294967296)) = n
  · rw [if_pos h, if_pos ⟨by decide, by decide, h⟩]
  · rw [if_neg h, if_neg (fun hh => h hh.2.2)]
 rw [eR]
 unfold imm_Put.f imm_pieces.f
 rw [if_neg (show ¬((2 : Int) = 1) by decide)]
 rw [if_pos (show (2 : Int) = 2 from rfl)]
 rw [obind]
 refine Eq.trans (put_step (k + 10) 2 n 12 _ [⟨25, 7, 5⟩, ⟨7, 5, 0⟩] 0 (by decide) (by decide) 25 7 5 rfl (by decide) (by decide) (by decide) 33554432 128 32 rfl rfl rfl (by decide)) ?_
 refine Eq.trans (put_step (k + 9) 2 n 12 _ [⟨25, 7, 5⟩, ⟨7, 5, 0⟩] 1 (by decide) (by decide) 7 5 0 rfl (by decide) (by decide) (by decide) 128 32 1 rfl rfl rfl (by decide)) ?_
 have hu0 : 0 ≤ n % 4294967296 := by omega
 have hu1 : n % 4294967296 < 4294967296 := by omega
 generalize n % 4294967296 = u at hu0 hu1
 rw [or_zero _ (by omega) (by omega)]
 rw [or_add 12 _ _ (by omega) (by omega) (by omega) (by omega) (by omega) (by omega)]
 have e : (u / 32 % 128 * 33554432) + (u / 1 % 32 * 128) = p2 u := by unfold p2; omega
 rw [e]
 have hp : 0 ≤ p2 u ∧ p2 u < 4294967296 := by rw [← e]; omega
 exact put_end (k + 2) 2 n 12 _ [⟨25, 7, 5⟩, ⟨7, 5, 0⟩] (by decide) hp.1 hp.2
theorem put3 (k : Nat) (n : Int) : imm_Put.f (k + 11) 3 n = some (putR 3 n) := by
 have eR : putR 3 n = if getN 3 (p3 (n % 4294967296)) = n then (p3 (n % 4294967296), true) else (0, false) := by
  unfold putR
  rw [putN_3]
  by_cases h : getN 3 (p3 (n % 4294967296)) = n
  · rw [if_pos h, if_pos ⟨by decide, by decide, h⟩]
  · rw [if_neg h, if_neg (fun hh => h hh.2.2)]
 rw [eR]
 unfold imm_Put.f imm_pieces.f
 rw [if_neg (show ¬((3 : Int) = 1) by decide)]
 rw [if_neg (show ¬((3 : Int) = 2) by decide)]
 rw [if_pos (show (3 : Int) = 3 from rfl)]
 rw [obind]
 refine Eq.trans (put_step (k + 10) 3 n 13 _ [⟨31, 1, 12⟩, ⟨7, 1, 11⟩, ⟨25, 6, 5⟩, ⟨8, 4, 1⟩] 0 (by decide) (by decide) 31 1 12 rfl (by decide) (by decide) (by decide) 2147483648 2 4096 rfl rfl rfl (by decide)) ?_
 refine Eq.trans (put_step (k + 9) 3 n 13 _ [⟨31, 1, 12⟩, ⟨7, 1, 11⟩, ⟨25, 6, 5⟩, ⟨8, 4, 1⟩] 1 (by decide) (by decide) 7 1 11 rfl (by decide) (by decide) (by decide) 128 2 2048 rfl rfl rfl (by decide)) ?_
 refine Eq.trans (put_step (k + 8) 3 n 13 _ [⟨31, 1, 12⟩, ⟨7, 1, 11⟩, ⟨25, 6, 5⟩, ⟨8, 4, 1⟩] 2 (by decide) (by decide) 25 6 5 rfl (by decide) (by decide) (by decide) 33554432 64 32 rfl rfl rfl (by decide)) ?_
 refine Eq.trans (put_step (k + 7) 3 n 13 _ [⟨31, 1, 12⟩, ⟨7, 1, 11⟩, ⟨25, 6, 5⟩, ⟨8, 4, 1⟩] 3 (by decide) (by decide) 8 4 1 rfl (by decide) (by decide) (by decide) 256 16 2 rfl rfl rfl (by decide)) ?_
 have hu0 : 0 ≤ n % 4294967296 := by omega
 have hu1 : n % 4294967296 < 4294967296 := by omega
 generalize n % 4294967296 = u at hu0 hu1
 rw [or_zero _ (by omega) (by omega)]
 rw [or_swap (u / 4096 % 2 * 2147483648) (u / 2048 % 2 * 128) (u / 32 % 64 * 33554432) (by omega) (by omega) (by omega) (by omega) (by omega) (by omega)]
 rw [or_add 31 (u / 4096 % 2 * 2147483648) (u / 32 % 64 * 33554432) (by omega) (by omega) (by omega) (by omega) (by omega) (by omega)]
 rw [or_swap _ (u / 2048 % 2 * 128) (u / 2 % 16 * 256) (by omega) (by omega) (by omega) (by omega) (by omega) (by omega)]
 rw [or_add 12 _ (u / 2 % 16 * 256) (by omega) (by omega) (by omega) (by omega) (by omega) (by omega)]
 rw [or_add 8 _ (u / 2048 % 2 * 128) (by omega) (by omega) (by omega) (by omega) (by omega) (by omega)]
 have e : (u / 4096 % 2 * 2147483648) + (u / 32 % 64 * 33554432) + (u / 2 % 16 * 256) + (u / 2048 % 2 * 128) = p3 u := by unfold p3; omega
 rw [e]
 have hp : 0 ≤ p3 u ∧ p3 u < 4294967296 := by rw [← e]; omega
 exact put_end (k + 0) 3 n 13 _ [⟨31, 1, 12⟩, ⟨7, 1, 11⟩, ⟨25, 6, 5⟩, ⟨8, 4, 1⟩] (by decide) hp.1 hp.2
theorem put4 (k : Nat) (n : Int) : imm_Put.f (k + 11) 4 n = some (putR 4 n) := by
 have eR : putR 4 n = if getN 4 (p4 (n % 4294967296)) = n then (p4 (n % 4294967296), true) else (0, false) := by
  unfold putR
  rw [putN_4]
  by_cases h : getN 4 (p4 (n % 4294967296)) = n
  · rw [if_pos h, if_pos ⟨by decide, by decide, h⟩]
  · rw [if_neg h, if_neg (fun hh => h hh.2.2)]
 rw [eR]
 unfold imm_Put.f imm_pieces.f
 rw [if_neg (show ¬((4 : Int) = 1) by decide)]
 rw [if_neg (show ¬((4 : Int) = 2) by decide)]
 rw [if_neg (show ¬((4 : Int) = 3) by decide)]
 rw [if_pos (show (4 : Int) = 4 from rfl)]
 rw [obind]
 refine Eq.trans (put_step (k + 10) 4 n 32 _ [⟨12, 20, 12⟩] 0 (by decide) (by decide) 12 20 12 rfl (by decide) (by decide) (by decide) 4096 1048576 4096 rfl rfl rfl (by decide)) ?_
 have hu0 : 0 ≤ n % 4294967296 := by omega
 have hu1 : n % 4294967296 < 4294967296 := by omega
 generalize n % 4294967296 = u at hu0 hu1
 rw [or_zero _ (by omega) (by omega)]
 have e : (u / 4096 % 1048576 * 4096) = p4 u := by unfold p4; omega
 rw [e]
 have hp : 0 ≤ p4 u ∧ p4 u < 4294967296 := by rw [← e]; omega
 exact put_end (k + 3) 4 n 32 _ [⟨12, 20, 12⟩] (by decide) hp.1 hp.2
theorem put5 (k : Nat) (n : Int) : imm_Put.f (k + 11) 5 n = some (putR 5 n) := by
 have eR : putR 5 n = if getN 5 (p5 (n % 4294967296)) = n then (p5 (n % 4294967296), true) else (0, false) := by
  unfold putR
  rw [putN_5]
  by_cases h : getN 5 (p5 (n % 4294967296)) = n
  · rw [if_pos h, if_pos ⟨by decide, by decide, h⟩]
  · rw [if_neg h, if_neg (fun hh => h hh.2.2)]
 rw [eR]
 unfold imm_Put.f imm_pieces.f
 rw [if_neg (show ¬((5 : Int) = 1) by decide)]
 rw [if_neg (show ¬((5 : Int) = 2) by decide)]
 rw [if_neg (show ¬((5 : Int) = 3) by decide)]
 rw [if_neg (show ¬((5 : Int) = 4) by decide)]
 rw [if_pos (show (5 : Int) = 5 from rfl)]
 rw [obind]
 refine Eq.trans (put_step (k + 10) 5 n 21 _ [⟨31, 1, 20⟩, ⟨12, 8, 12⟩, ⟨20, 1, 11⟩, ⟨21, 10, 1⟩] 0 (by decide) (by decide) 31 1 20 rfl (by decide) (by decide) (by decide) 2147483648 2 1048576 rfl rfl rfl (by decide)) ?_
 refine Eq.trans (put_step (k + 9) 5 n 21 _ [⟨31, 1, 20⟩, ⟨12, 8, 12⟩, ⟨20, 1, 11⟩, ⟨21, 10, 1⟩] 1 (by decide) (by decide) 12 8 12 rfl (by decide) (by decide) (by decide) 4096 256 4096 rfl rfl rfl (by decide)) ?_
 refine Eq.trans (put_step (k + 8) 5 n 21 _ [⟨31, 1, 20⟩, ⟨12, 8, 12⟩, ⟨20, 1, 11⟩, ⟨21, 10, 1⟩] 2 (by decide) (by decide) 20 1 11 rfl (by decide) (by decide) (by decide) 1048576 2 2048 rfl rfl rfl (by decide)) ?_
 refine Eq.trans (put_step (k + 7) 5 n 21 _ [⟨31, 1, 20⟩, ⟨12, 8, 12⟩, ⟨20, 1, 11⟩, ⟨21, 10, 1⟩] 3 (by decide) (by decide) 21 10 1 rfl (by decide) (by decide) (by decide) 2097152 1024 2 rfl rfl rfl (by decide)) ?_
 have hu0 : 0 ≤ n % 4294967296 := by omega
 have hu1 : n % 4294967296 < 4294967296 := by omega
 generalize n % 4294967296 = u at hu0 hu1
 rw [or_zero _ (by omega) (by omega)]
 have hr := or_range (u / 1048576 % 2 * 2147483648) (u / 4096 % 256 * 4096) (by omega) (by omega) (by omega) (by omega)
 rw [or_swap _ (u / 2048 % 2 * 1048576) (u / 2 % 1024 * 2097152) hr.1 hr.2 (by omega) (by omega) (by omega) (by omega)]
 rw [or_swap (u / 1048576 % 2 * 2147483648) (u / 4096 % 256 * 4096) (u / 2 % 1024 * 2097152) (by omega) (by omega) (by omega) (by omega) (by omega) (by omega)]
 rw [or_add 31 (u / 1048576 % 2 * 2147483648) (u / 2 % 1024 * 2097152) (by omega) (by omega) (by omega) (by omega) (by omega) (by omega)]
 rw [or_swap _ (u / 4096 % 256 * 4096) (u / 2048 % 2 * 1048576) (by omega) (by omega) (by omega) (by omega) (by omega) (by omega)]
 rw [or_add 21 _ (u / 2048 % 2 * 1048576) (by omega) (by omega) (by omega) (by omega) (by omega) (by omega)]
 rw [or_add 20 _ (u / 4096 % 256 * 4096) (by omega) (by omega) (by omega) (by omega) (by omega) (by omega)]
 have e : (u / 1048576 % 2 * 2147483648) + (u / 2 % 1024 * 2097152) + (u / 2048 % 2 * 1048576) + (u / 4096 % 256 * 4096) = p5 u := by unfold p5; omega
 rw [e]
 have hp : 0 ≤ p5 u ∧ p5 u < 4294967296 := by rw [← e]; omega
 exact put_end (k + 0) 5 n 21 _ [⟨31, 1, 20⟩, ⟨12, 8, 12⟩, ⟨20, 1, 11⟩, ⟨21, 10, 1⟩] (by decide) hp.1 hp.2
theorem put_none (k : Nat) (form n : Int) (hf : form < 1 ∨ 5 < form) : imm_Put.f (k + 11) form n = some (putR form n) := by
 have e : putR form n = (0, false) := by unfold putR; rw [if_neg (by omega)]
 rw [e]
 unfold imm_Put.f
 rw [pieces_none form hf, obind]
 simp only [imm_Put.l0]
 rw [if_neg (by decide), if_pos trivial]
theorem put_is (k : Nat) (form n : Int) : imm_Put.f (k + 11) form n = some (putR form n) := by
 by_cases h : form < 1 ∨ 5 < form
 · exact put_none k form n h
 · have : form = 1 ∨ form = 2 ∨ form = 3 ∨ form = 4 ∨ form = 5 := by omega
   rcases this with rfl | rfl | rfl | rfl | rfl
   · exact put1 k n
   · exact put2 k n
   · exact put3 k n
   · exact put4 k n
   · exact put5 k n
theorem or_field (x f : Int) (lo m : Nat) (L M : Int) (eL : (2 : Int) ^ lo = L) (eM : (2 : Int) ^ m = M) (hx0 : 0 ≤ x) (hx1 : x < 4294967296) (hf0 : 0 ≤ f) (hf1 : f < M) (hlm : lo + m ≤ 32) (hz : x / L % M = 0) :
 Go.bits .or .u32 x (f * L) = x + f * L := by
 subst eL eM
 obtain ⟨a, rfl⟩ := Int.eq_ofNat_of_zero_le hx0
 obtain ⟨g, rfl⟩ := Int.eq_ofNat_of_zero_le hf0
 have hg : g < 2 ^ m := by
  have : ((g : Nat) : Int) < ((2 ^ m : Nat) : Int) := by rw [Int.natCast_pow]; exact hf1
  omega
 have hz' : a / 2 ^ lo % 2 ^ m = 0 := by
  have : ((a / 2 ^ lo % 2 ^ m : Nat) : Int) = 0 := by
   rw [Int.natCast_emod, Int.natCast_ediv, Int.natCast_pow, Int.natCast_pow]; exact hz
  omega
 have hF : g * 2 ^ lo < 2 ^ (lo + m) := by
  rw [Nat.pow_add, Nat.mul_comm]; exact Nat.mul_lt_mul_of_pos_left hg (Nat.two_pow_pos lo)
 have hle : 2 ^ (lo + m) ≤ 2 ^ 32 := Nat.pow_le_pow_right (by decide) hlm
 have hc : (g : Int) * 2 ^ lo = ((g * 2 ^ lo : Nat) : Int) := by rw [Int.natCast_mul, Int.natCast_pow]; rfl
 rw [hc, or_nat _ _ (Int.natCast_nonneg _) hx1 (Int.natCast_nonneg _) (by omega), Int.toNat_natCast, Int.toNat_natCast]
 have hl : a % 2 ^ lo < 2 ^ lo := Nat.mod_lt _ (Nat.two_pow_pos lo)
 have ha : a = 2 ^ (lo + m) * (a / 2 ^ (lo + m)) + a % 2 ^ lo := by
  have h1 := Nat.div_add_mod a (2 ^ lo)
  have h2 := Nat.div_add_mod (a / 2 ^ lo) (2 ^ m)
  rw [hz', Nat.div_div_eq_div_mul, ← Nat.pow_add] at h2
  have h3 : 2 ^ lo * (2 ^ m * (a / 2 ^ (lo + m))) = 2 ^ (lo + m) * (a / 2 ^ (lo + m)) := by rw [← Nat.mul_assoc, ← Nat.pow_add]
  rw [← h3, show 2 ^ m * (a / 2 ^ (lo + m)) = a / 2 ^ lo from h2]
  exact h1.symm
 have hlo : a % 2 ^ lo < 2 ^ (lo + m) := Nat.lt_of_lt_of_le hl (Nat.pow_le_pow_right (by decide) (by omega))
 have e1 : a ||| g * 2 ^ lo = 2 ^ (lo + m) * (a / 2 ^ (lo + m)) + (2 ^ lo * g + a % 2 ^ lo) := by
  rw [Nat.mul_comm g]
  have hs : 2 ^ lo * g + a % 2 ^ lo < 2 ^ (lo + m) := by
   have h5 : 2 ^ lo * g + 2 ^ lo ≤ 2 ^ (lo + m) := by
    rw [Nat.pow_add, ← Nat.mul_succ]; exact Nat.mul_le_mul_left _ hg
   omega
  have hb := Nat.two_pow_add_eq_or_of_lt hs (a / 2 ^ (lo + m))
  rw [hb, Nat.two_pow_add_eq_or_of_lt hl g]
  have ha2 : a = 2 ^ (lo + m) * (a / 2 ^ (lo + m)) ||| a % 2 ^ lo := by
   rw [← Nat.two_pow_add_eq_or_of_lt hlo]; exact ha
  have step : ∀ H l F : Nat, a = H ||| l → a ||| F = H ||| (F ||| l) := by
   intro H l F h; rw [h, Nat.or_assoc, Nat.or_comm l F]
  exact step _ _ _ ha2
 rw [e1]
 have e2 : 2 ^ (lo + m) * (a / 2 ^ (lo + m)) + (2 ^ lo * g + a % 2 ^ lo) = a + g * 2 ^ lo := by
  rw [Nat.mul_comm g]; omega
 rw [e2, Int.natCast_add]
theorem or_assoc32 (x y z : Int) (hx0 : 0 ≤ x) (hx1 : x < 4294967296) (hy0 : 0 ≤ y) (hy1 : y < 4294967296) (hz0 : 0 ≤ z) (hz1 : z < 4294967296) :
 Go.bits .or .u32 x (Go.bits .or .u32 y z) = Go.bits .or .u32 (Go.bits .or .u32 x y) z := by
 rw [or_nat x y hx0 hx1 hy0 hy1, or_nat y z hy0 hy1 hz0 hz1]
 have b1 : x.toNat ||| y.toNat < 2 ^ 32 := Nat.or_lt_two_pow (by omega) (by omega)
 have b2 : y.toNat ||| z.toNat < 2 ^ 32 := Nat.or_lt_two_pow (by omega) (by omega)
 rw [or_nat _ _ (Int.natCast_nonneg _) (by omega) hz0 hz1, or_nat _ _ hx0 hx1 (Int.natCast_nonneg _) (by omega)]
 rw [Int.toNat_natCast, Int.toNat_natCast, Nat.or_assoc]
/-- A number in two pieces, at 25 and at 7. -/
theorem or_two (x A B : Int) (hx0 : 0 ≤ x) (hx1 : x < 33554432) (hA0 : 0 ≤ A) (hA1 : A < 128) (hB0 : 0 ≤ B) (hB1 : B < 32) (hz : x / 128 % 32 = 0) :
 Go.bits .or .u32 x (A * 33554432 + B * 128) = x + A * 33554432 + B * 128 := by
 have e : A * 33554432 + B * 128 = Go.bits .or .u32 (A * 33554432) (B * 128) := (or_add 12 _ _ (by omega) (by omega) (by omega) (by omega) (by omega) (by omega)).symm
 rw [e, or_assoc32 x _ _ hx0 (by omega) (by omega) (by omega) (by omega) (by omega)]
 rw [or_field x A 25 7 33554432 128 rfl rfl hx0 (by omega) hA0 hA1 (by decide) (by omega)]
 rw [or_field _ B 7 5 128 32 rfl rfl (by omega) (by omega) hB0 hB1 (by decide) (by omega)]
/-- Where the number of each form lies. -/
theorem p_lies (u : Int) : (∃ A, 0 ≤ A ∧ A < 4096 ∧ p1 u = A * 1048576) ∧ (∃ A B, 0 ≤ A ∧ A < 128 ∧ 0 ≤ B ∧ B < 32 ∧ p2 u = A * 33554432 + B * 128) ∧ (∃ A B, 0 ≤ A ∧ A < 128 ∧ 0 ≤ B ∧ B < 32 ∧ p3 u = A * 33554432 + B * 128) ∧ (∃ A, 0 ≤ A ∧ A < 1048576 ∧ p4 u = A * 4096) ∧ (∃ A, 0 ≤ A ∧ A < 1048576 ∧ p5 u = A * 4096) := by
 refine ⟨⟨u % 4096, by omega, by omega, by unfold p1; omega⟩, ⟨u / 32 % 128, u % 32, by omega, by omega, by omega, by omega, by unfold p2; omega⟩, ⟨u / 4096 % 2 * 64 + u / 32 % 64, u / 2048 % 2 + 2 * (u / 2 % 16), by omega, by omega, by omega, by omega, by unfold p3; omega⟩, ⟨u / 4096 % 1048576, by omega, by omega, by unfold p4; omega⟩, ⟨u / 1048576 % 2 * 524288 + u / 2 % 1024 * 512 + u / 2048 % 2 * 256 + u / 4096 % 256, by omega, by omega, by unfold p5; omega⟩⟩
/-! ### the table -/
abbrev Row := Int × Int × Int × Int × Bool × Bool × Bool × Bool × Bool
def row (op : Int) : Row := (inst_of.f 2 op).getD (0, 0, 0, 0, false, false, false, false, false)
def lo (op : Int) : Int := (row op).1
def th (op : Int) : Int := (row op).2.1
def sv (op : Int) : Int := (row op).2.2.1
def fm (op : Int) : Int := (row op).2.2.2.1
def hd (op : Int) : Bool := (row op).2.2.2.2.1
def ha (op : Int) : Bool := (row op).2.2.2.2.2.1
def hb (op : Int) : Bool := (row op).2.2.2.2.2.2.1
def hs (op : Int) : Bool := (row op).2.2.2.2.2.2.2.1
theorem in_nat (op : Int) (h0 : 1 ≤ op) (h1 : op ≤ 46) : ∃ n : Fin 46, op = ((n.val + 1 : Nat) : Int) := ⟨⟨(op - 1).toNat, by omega⟩, by simp; omega⟩
theorem of_chk : ∀ n : Fin 46, (inst_of.f 2 ((n.val + 1 : Nat) : Int)).isSome = true ∧ (row ((n.val + 1 : Nat) : Int)).2.2.2.2.2.2.2.2 = true := by decide +kernel
theorem of_in (k : Nat) (hk : 2 ≤ k) (op : Int) (h0 : 1 ≤ op) (h1 : op ≤ 46) : inst_of.f k op = some (lo op, th op, sv op, fm op, hd op, ha op, hb op, hs op, true) := by
 refine at_rounds (g := fun k => inst_of.f k op) (fun k => inst_of.mono op k) hk ?_
 obtain ⟨n, rfl⟩ := in_nat op h0 h1
 obtain ⟨c1, c2⟩ := of_chk n
 show inst_of.f 2 _ = _
 generalize ((n.val + 1 : Nat) : Int) = op at c1 c2
 have e : inst_of.f 2 op = some (row op) := by
  unfold row
  cases hq : inst_of.f 2 op with
  | none => rw [hq] at c1; cases c1
  | some x => rfl
 rw [e]
 unfold lo th sv fm hd ha hb hs
 rw [← c2]
theorem of_out (k : Nat) (hk : 1 ≤ k) (op : Int) (h : op < 1 ∨ 46 < op) : inst_of.f k op = some (0, 0, 0, 0, false, false, false, false, false) := by
 obtain ⟨k, rfl⟩ : ∃ m, k = m + 1 := ⟨k - 1, by omega⟩
 unfold inst_of.f
 by_cases c : op < 1
 · rw [if_pos c]; simp only [inst_of.j0]; rw [if_pos trivial]
 · rw [if_neg c, decide_eq_true (by omega)]; simp only [inst_of.j0]; rw [if_pos trivial]
/-- The sorts of operations. -/
def Cls (l t s f : Int) (d a b x : Bool) : Prop :=
 (0 ≤ l ∧ l < 128 ∧ 0 ≤ t ∧ t < 8 ∧ 0 ≤ s ∧ s < 128) ∧
 ((f = 0 ∧ d = true ∧ a = true ∧ b = true ∧ x = false) ∨ (f = 0 ∧ d = true ∧ a = true ∧ b = false ∧ x = true) ∨ (f = 1 ∧ d = true ∧ a = true ∧ b = false ∧ x = false ∧ s = 0) ∨
  (f = 2 ∧ d = false ∧ a = true ∧ b = true ∧ x = false ∧ s = 0) ∨ (f = 3 ∧ d = false ∧ a = true ∧ b = true ∧ x = false ∧ s = 0) ∨ (f = 4 ∧ d = true ∧ a = false ∧ b = false ∧ x = false ∧ s = 0 ∧ t = 0) ∨
  (f = 5 ∧ d = true ∧ a = false ∧ b = false ∧ x = false ∧ s = 0 ∧ t = 0) ∨ (f = 1 ∧ d = false ∧ a = false ∧ b = false ∧ x = false ∧ s = 0 ∧ t = 0))
instance (l t s f : Int) (d a b x : Bool) : Decidable (Cls l t s f d a b x) := by unfold Cls; infer_instance
theorem cls_chk : ∀ n : Fin 46, Cls (lo ((n.val + 1 : Nat) : Int)) (th ((n.val + 1 : Nat) : Int)) (sv ((n.val + 1 : Nat) : Int)) (fm ((n.val + 1 : Nat) : Int)) (hd ((n.val + 1 : Nat) : Int)) (ha ((n.val + 1 : Nat) : Int)) (hb ((n.val + 1 : Nat) : Int)) (hs ((n.val + 1 : Nat) : Int)) := by decide +kernel
theorem cls (op : Int) (h0 : 1 ≤ op) (h1 : op ≤ 46) : Cls (lo op) (th op) (sv op) (fm op) (hd op) (ha op) (hb op) (hs op) := by
 obtain ⟨n, rfl⟩ := in_nat op h0 h1
 exact cls_chk n
theorem fits_is (n : Int) (b : Bool) : inst_fits.f n b = some (decide (n = 0 ∨ (b = true ∧ 0 < n ∧ n < 32))) := by
 unfold inst_fits.f
 by_cases c : n = 0
 · rw [if_pos c, decide_eq_true (.inl c)]
 · rw [if_neg c]
   cases b with
   | false => rw [if_neg (by decide), decide_eq_false (by rintro (h | ⟨h, _⟩); exact c h; cases h)]
   | true =>
    rw [if_pos rfl]
    by_cases d : n > 0
    · rw [if_pos d]
      congr 1
      rw [decide_eq_decide]
      exact ⟨fun h => .inr ⟨rfl, d, h⟩, fun h => by rcases h with h | h; exact absurd h c; exact h.2.2⟩
    · rw [if_neg d, decide_eq_false (by rintro (h | h); exact c h; exact d h.2.1)]
/-- What the number adds to the word; whether it may be. -/
def immW (op imm : Int) : Int := if hs op = true then imm * 1048576 else if fm op = 0 then 0 else putN (fm op) (imm % 4294967296)
def immOk (op imm : Int) : Bool := if hs op = true then decide (0 ≤ imm ∧ imm < 32) else if fm op = 0 then decide (imm = 0) else (putR (fm op) imm).2
def okV (op rd rs1 rs2 imm : Int) : Bool := decide (rd = 0 ∨ (hd op = true ∧ 0 < rd ∧ rd < 32)) && decide (rs1 = 0 ∨ (ha op = true ∧ 0 < rs1 ∧ rs1 < 32)) && decide (rs2 = 0 ∨ (hb op = true ∧ 0 < rs2 ∧ rs2 < 32)) && immOk op imm
def wdV (op rd rs1 rs2 imm : Int) : Int := lo op + th op * 4096 + sv op * 33554432 + rd * 128 + rs1 * 32768 + rs2 * 1048576 + immW op imm
theorem putR_word (f n : Int) (h : (putR f n).2 = true) : (putR f n).1 = putN f (n % 4294967296) := by
 unfold putR at h ⊢
 by_cases c : 1 ≤ f ∧ f ≤ 5 ∧ getN f (putN f (n % 4294967296)) = n
 · rw [if_pos c]
 · rw [if_neg c] at h; cases h
def base (op rd rs1 rs2 : Int) : Int :=
 Go.bits .or .u32 (Go.bits .or .u32 (Go.bits .or .u32 (Go.bits .or .u32 (Go.bits .or .u32 (lo op) ((th op * 4096) % 4294967296)) ((sv op * 33554432) % 4294967296)) (((rd % 4294967296) * 128) % 4294967296)) (((rs1 % 4294967296) * 32768) % 4294967296)) (((rs2 % 4294967296) * 1048576) % 4294967296)
theorem base_is (op rd rs1 rs2 : Int) (h0 : 1 ≤ op) (h1 : op ≤ 46) (hrd : 0 ≤ rd ∧ rd < 32) (hr1 : 0 ≤ rs1 ∧ rs1 < 32) (hr2 : 0 ≤ rs2 ∧ rs2 < 32) :
 base op rd rs1 rs2 = lo op + th op * 4096 + sv op * 33554432 + rd * 128 + rs1 * 32768 + rs2 * 1048576 := by
 obtain ⟨⟨b1, b2, b3, b4, b5, b6⟩, _⟩ := cls op h0 h1
 unfold base
 generalize lo op = l at *
 generalize th op = t at *
 generalize sv op = s at *
 rw [show (t * 4096) % 4294967296 = t * 4096 by omega, show (s * 33554432) % 4294967296 = s * 33554432 by omega, show ((rd % 4294967296) * 128) % 4294967296 = rd * 128 by omega, show ((rs1 % 4294967296) * 32768) % 4294967296 = rs1 * 32768 by omega, show ((rs2 % 4294967296) * 1048576) % 4294967296 = rs2 * 1048576 by omega]
 rw [or_field l t 12 3 4096 8 rfl rfl b1 (by omega) b3 b4 (by decide) (by omega)]
 rw [or_field _ s 25 7 33554432 128 rfl rfl (by omega) (by omega) b5 b6 (by decide) (by omega)]
 rw [or_field _ rd 7 5 128 32 rfl rfl (by omega) (by omega) hrd.1 hrd.2 (by decide) (by omega)]
 rw [or_field _ rs1 15 5 32768 32 rfl rfl (by omega) (by omega) hr1.1 hr1.2 (by decide) (by omega)]
 rw [or_field _ rs2 20 5 1048576 32 rfl rfl (by omega) (by omega) hr2.1 hr2.2 (by decide) (by omega)]
theorem regs_of (op rd rs1 rs2 imm : Int) (h : okV op rd rs1 rs2 imm = true) : (rd = 0 ∨ (hd op = true ∧ 0 < rd ∧ rd < 32)) ∧ (rs1 = 0 ∨ (ha op = true ∧ 0 < rs1 ∧ rs1 < 32)) ∧ (rs2 = 0 ∨ (hb op = true ∧ 0 < rs2 ∧ rs2 < 32)) ∧ immOk op imm = true := by
 unfold okV at h
 simp only [Bool.and_eq_true, decide_eq_true_eq] at h
 exact ⟨h.1.1.1, h.1.1.2, h.1.2, h.2⟩
theorem word_sum (op rd rs1 rs2 imm : Int) (h0 : 1 ≤ op) (h1 : op ≤ 46) (hok : okV op rd rs1 rs2 imm = true) :
 (if hs op = true then Go.bits .or .u32 (base op rd rs1 rs2) (((imm % 4294967296) * 1048576) % 4294967296) else if fm op = 0 then base op rd rs1 rs2 else Go.bits .or .u32 (base op rd rs1 rs2) (putN (fm op) (imm % 4294967296))) = wdV op rd rs1 rs2 imm := by
 obtain ⟨r1, r2, r3, r4⟩ := regs_of op rd rs1 rs2 imm hok
 obtain ⟨⟨b1, b2, b3, b4, b5, b6⟩, hc⟩ := cls op h0 h1
 obtain ⟨⟨A1, a10, a11, e1⟩, ⟨A2, B2, a20, a21, b20, b21, e2⟩, ⟨A3, B3, a30, a31, b30, b31, e3⟩, ⟨A4, a40, a41, e4⟩, ⟨A5, a50, a51, e5⟩⟩ := p_lies (imm % 4294967296)
 rw [base_is op rd rs1 rs2 h0 h1 (by omega) (by omega) (by omega)]
 unfold wdV immW
 unfold immOk at r4
 generalize lo op = l at *
 generalize th op = t at *
 generalize sv op = s at *
 generalize fm op = f at *
 generalize hd op = d at *
 generalize ha op = a at *
 generalize hb op = b at *
 generalize hs op = x at *
 rcases hc with ⟨rfl, rfl, rfl, rfl, rfl⟩ | ⟨rfl, rfl, rfl, rfl, rfl⟩ | ⟨rfl, rfl, rfl, rfl, rfl, rfl⟩ | ⟨rfl, rfl, rfl, rfl, rfl, rfl⟩ | ⟨rfl, rfl, rfl, rfl, rfl, rfl⟩ | ⟨rfl, rfl, rfl, rfl, rfl, rfl, rfl⟩ | ⟨rfl, rfl, rfl, rfl, rfl, rfl, rfl⟩ | ⟨rfl, rfl, rfl, rfl, rfl, rfl, rfl⟩
 · rw [if_neg (by decide), if_pos rfl, if_neg (by decide), if_pos rfl]; omega
 · rw [if_pos rfl] at r4
   have r5 := of_decide_eq_true r4
   simp only [Bool.false_eq_true, false_and, or_false] at r3
   rw [if_pos rfl, if_pos rfl, show ((imm % 4294967296) * 1048576) % 4294967296 = imm * 1048576 by omega]
   rw [or_field _ imm 20 5 1048576 32 rfl rfl (by omega) (by omega) r5.1 r5.2 (by decide) (by omega)]
 · simp only [Bool.false_eq_true, false_and, or_false] at r3
   rw [if_neg (by decide), if_neg (by decide), if_neg (by decide), if_neg (by decide), putN_1, e1]
   rw [or_field _ A1 20 12 1048576 4096 rfl rfl (by omega) (by omega) a10 a11 (by decide) (by omega)]
 · simp only [Bool.false_eq_true, false_and, or_false] at r1
   rw [if_neg (by decide), if_neg (by decide), if_neg (by decide), if_neg (by decide), putN_2, e2]
   rw [or_two _ A2 B2 (by omega) (by omega) a20 a21 b20 b21 (by omega)]; omega
 · simp only [Bool.false_eq_true, false_and, or_false] at r1
   rw [if_neg (by decide), if_neg (by decide), if_neg (by decide), if_neg (by decide), putN_3, e3]
   rw [or_two _ A3 B3 (by omega) (by omega) a30 a31 b30 b31 (by omega)]; omega
 · simp only [Bool.false_eq_true, false_and, or_false] at r2 r3
   rw [if_neg (by decide), if_neg (by decide), if_neg (by decide), if_neg (by decide), putN_4, e4]
   rw [or_field _ A4 12 20 4096 1048576 rfl rfl (by omega) (by omega) a40 a41 (by decide) (by omega)]
 · simp only [Bool.false_eq_true, false_and, or_false] at r2 r3
   rw [if_neg (by decide), if_neg (by decide), if_neg (by decide), if_neg (by decide), putN_5, e5]
   rw [or_field _ A5 12 20 4096 1048576 rfl rfl (by omega) (by omega) a50 a51 (by decide) (by omega)]
 · simp only [Bool.false_eq_true, false_and, or_false] at r1 r2 r3
   rw [if_neg (by decide), if_neg (by decide), if_neg (by decide), if_neg (by decide), putN_1, e1]
   rw [or_field _ A1 20 12 1048576 4096 rfl rfl (by omega) (by omega) a10 a11 (by decide) (by omega)]
/-- The word of an instruction whose operation is from 1 to 46. -/
theorem word_in (op rd rs1 rs2 imm : Int) (h0 : 1 ≤ op) (h1 : op ≤ 46) (k : Nat) : ∃ x, iwd.f (k + 12) op rd rs1 rs2 imm = some (x, okV op rd rs1 rs2 imm) ∧ (okV op rd rs1 rs2 imm = true → x = wdV op rd rs1 rs2 imm) := by
 have hsum := word_sum op rd rs1 rs2 imm h0 h1
 have hf0 : (op == 47 && (rd == 0 && (rs1 == 0 && (rs2 == 0 && (imm == 0))))) = false := by
  rw [beq_eq_false_iff_ne.mpr (show op ≠ 47 by omega), Bool.false_and]
 have hf1 : (op == 48 && (rd == 0 && (rs1 == 0 && (rs2 == 0 && (imm == 0))))) = false := by
  rw [beq_eq_false_iff_ne.mpr (show op ≠ 48 by omega), Bool.false_and]
 have bad : okV op rd rs1 rs2 imm = false → iwd.j0 (k + 12) true op rd rs1 rs2 imm (lo op) (th op) (sv op) (fm op) (hd op) (ha op) (hb op) (hs op) = some (0, false) := by
  intro _
  simp only [iwd.j0]; rw [if_pos trivial]
 unfold iwd.f
 rw [hf0, hf1, if_neg (by decide), if_neg (by decide), of_in (k + 12) (by omega) op h0 h1, obind]
 simp only [if_true]
 rw [fits_is, obind]
 by_cases c1 : rd = 0 ∨ (hd op = true ∧ 0 < rd ∧ rd < 32)
 · rw [if_pos (decide_eq_true c1), fits_is, obind]
   by_cases c2 : rs1 = 0 ∨ (ha op = true ∧ 0 < rs1 ∧ rs1 < 32)
   · rw [if_pos (decide_eq_true c2), fits_is, obind]
     by_cases c3 : rs2 = 0 ∨ (hb op = true ∧ 0 < rs2 ∧ rs2 < 32)
     · rw [decide_eq_true c3]
       have hok : okV op rd rs1 rs2 imm = immOk op imm := by
        unfold okV; rw [decide_eq_true c1, decide_eq_true c2, decide_eq_true c3]; rfl
       rw [hok] at hsum ⊢
       have hput := put_is k (fm op) imm
       rw [show k + 12 = k + 11 + 1 from rfl]
       generalize k + 11 = K at hput
       simp only [iwd.j0]
       rw [if_neg (by decide)]
       unfold immOk at hsum ⊢
       by_cases cs : hs op = true
       · simp only [if_pos cs] at hsum ⊢
         by_cases ci : imm ≥ 0
         · refine ⟨_, by rw [if_pos ci]; congr 2; rw [decide_eq_decide]; omega, hsum⟩
         · refine ⟨_, by rw [if_neg ci]; congr 2; rw [eq_comm, decide_eq_false_iff_not]; omega, hsum⟩
       · simp only [if_neg cs] at hsum ⊢
         by_cases cf : fm op = 0
         · simp only [if_pos cf] at hsum ⊢
           exact ⟨_, by congr 2, hsum⟩
         · simp only [if_neg cf] at hsum ⊢
           rw [hput, obind]
           refine ⟨_, rfl, fun h => ?_⟩
           rw [putR_word _ _ h]
           exact hsum h
     · rw [decide_eq_false c3]
       have hok : okV op rd rs1 rs2 imm = false := by
        unfold okV; rw [decide_eq_false c3]; simp
       rw [hok]
       exact ⟨0, bad hok, fun h => by cases h⟩
   · rw [if_neg (by rw [decide_eq_false c2]; decide)]
     have hok : okV op rd rs1 rs2 imm = false := by
      unfold okV; rw [decide_eq_false c2]; simp
     rw [hok]
     exact ⟨0, bad hok, fun h => by cases h⟩
 · rw [if_neg (by rw [decide_eq_false c1]; decide)]
   have hok : okV op rd rs1 rs2 imm = false := by
    unfold okV; rw [decide_eq_false c1]; simp
   rw [hok]
   exact ⟨0, bad hok, fun h => by cases h⟩
/-- Whether an instruction may be, and its word. -/
def okI (op rd rs1 rs2 imm : Int) : Bool := if op = 47 ∨ op = 48 then decide (rd = 0 ∧ rs1 = 0 ∧ rs2 = 0 ∧ imm = 0) else if 1 ≤ op ∧ op ≤ 46 then okV op rd rs1 rs2 imm else false
def wdI (op rd rs1 rs2 imm : Int) : Int := if op = 47 then 115 else if op = 48 then 1048691 else wdV op rd rs1 rs2 imm
theorem okI_in (op rd rs1 rs2 imm : Int) (h0 : 1 ≤ op) (h1 : op ≤ 46) : okI op rd rs1 rs2 imm = okV op rd rs1 rs2 imm ∧ wdI op rd rs1 rs2 imm = wdV op rd rs1 rs2 imm := by
 unfold okI wdI
 rw [if_neg (by omega), if_pos ⟨h0, h1⟩, if_neg (by omega), if_neg (by omega)]
 exact ⟨rfl, rfl⟩
theorem word_is (k : Nat) (op rd rs1 rs2 imm : Int) : ∃ x, iwd.f (k + 12) op rd rs1 rs2 imm = some (x, okI op rd rs1 rs2 imm) ∧ (okI op rd rs1 rs2 imm = true → x = wdI op rd rs1 rs2 imm) := by
 by_cases c : 1 ≤ op ∧ op ≤ 46
 · rw [(okI_in op rd rs1 rs2 imm c.1 c.2).1, (okI_in op rd rs1 rs2 imm c.1 c.2).2]
   exact word_in op rd rs1 rs2 imm c.1 c.2 k
 · have out : ∀ (h : ¬ (op = 47 ∨ op = 48) ∨ ¬ (rd = 0 ∧ rs1 = 0 ∧ rs2 = 0 ∧ imm = 0)), okI op rd rs1 rs2 imm = false ∧ iwd.f (k + 12) op rd rs1 rs2 imm = some (0, false) := by
    intro h
    have e1 : okI op rd rs1 rs2 imm = false := by
     unfold okI
     by_cases d : op = 47 ∨ op = 48
     · rw [if_pos d, decide_eq_false (by rcases h with h | h; exact absurd d h; exact h)]
     · rw [if_neg d, if_neg c]
    refine ⟨e1, ?_⟩
    have hb : ∀ n : Int, (n = 47 ∨ n = 48) → (op == n && (rd == 0 && (rs1 == 0 && (rs2 == 0 && (imm == 0))))) = false := by
     intro n hn
     rw [Bool.eq_false_iff]
     intro hh
     simp only [Bool.and_eq_true, beq_iff_eq] at hh
     rcases h with h | h
     · exact h (by omega)
     · exact h ⟨hh.2.1, hh.2.2.1, hh.2.2.2.1, hh.2.2.2.2⟩
    unfold iwd.f
    rw [hb 47 (.inl rfl), hb 48 (.inr rfl), if_neg (by decide), if_neg (by decide), of_out (k + 12) (by omega) op (by omega), obind]
    rw [if_neg (by decide)]
    simp only [iwd.j0]
    rw [if_pos trivial]
   by_cases d : (op = 47 ∨ op = 48) ∧ (rd = 0 ∧ rs1 = 0 ∧ rs2 = 0 ∧ imm = 0)
   · obtain ⟨d1, rfl, rfl, rfl, rfl⟩ := d
     rcases d1 with rfl | rfl
     · exact ⟨115, rfl, fun _ => rfl⟩
     · exact ⟨1048691, rfl, fun _ => rfl⟩
   · obtain ⟨o1, o2⟩ := out (by
      by_cases d1 : op = 47 ∨ op = 48
      · exact .inr (fun d2 => d ⟨d1, d2⟩)
      · exact .inl d1)
     rw [o1]
     exact ⟨0, o2, fun h => by cases h⟩
end Go.Proofs.Ytihecimbhhlhaaa.Pure
end
section
namespace Go.Proofs.Ytihecimbhhlhaaa.Pure
set_option linter.unusedVariables false
open Go.RowKit Go.Proofs.Ytihecimbhhlhaaa.PRs Go.Proofs.YtihecimbhhlhaaaW.PrintWords Go.Proofs.YtihecimbhhlhaaaW.PrintLast
theorem nat_high (a : Nat) (ha : a < 4294967296) : a &&& 4294963200 = 4096 * (a / 4096) := by
 have e : (4294963200 : Nat) = 2 ^ 12 * (2 ^ 20 - 1) := by decide
 have e2 : 4096 * (a / 4096) = 2 ^ 12 * (a / 2 ^ 12) := by rfl
 rw [e, e2]
 apply Nat.eq_of_testBit_eq
 intro i
 rw [Nat.testBit_and, Nat.testBit_two_pow_mul, Nat.testBit_two_pow_mul, Nat.testBit_two_pow_sub_one, Nat.testBit_div_two_pow]
 by_cases h : i ≥ 12
 · have e3 : i - 12 + 12 = i := by omega
   simp only [h, decide_true, Bool.true_and, e3]
   by_cases h2 : i - 12 < 20
   · simp [h2]
   · have : a.testBit i = false := Nat.testBit_lt_two_pow (Nat.lt_of_lt_of_le ha (by
      calc 4294967296 = 2 ^ 32 := by decide
       _ ≤ 2 ^ i := Nat.pow_le_pow_right (by decide) (by omega)))
     simp [this]
 · simp [h]
theorem i32_high (x : Int) (h0 : -2147483648 ≤ x) (h1 : x ≤ 2147483647) : Go.bits .and .i32 x (-4096) = x - x % 4096 := by
 have e : (BitVec.ofInt 32 (-4096 : Int)).toNat = 4294963200 := by decide
 have ex : ((BitVec.ofInt 32 x).toNat : Int) = x % 4294967296 := by
  rw [BitVec.toNat_ofInt]; simp; omega
 have hb : (BitVec.ofInt 32 x).toNat < 4294967296 := (BitVec.ofInt 32 x).isLt
 show IntKind.i32.wrap ((BitVec.ofInt 32 x &&& BitVec.ofInt 32 (-4096 : Int)).toNat : Int) = _
 rw [BitVec.toNat_and, e, nat_high _ hb, IntKind.wrap_i32]
 omega
/-- The list that both come to. -/
def setL (rd n : Int) : List S32 :=
 if rd < 1 ∨ 31 < rd then []
 else if -2048 ≤ n ∧ n ≤ 2047 then [⟨19, rd, 0, 0, n⟩]
 else if (n + 2048) % 4096 - 2048 = 0 then [⟨42, rd, 0, 0, wrap32 (n - ((n + 2048) % 4096 - 2048))⟩]
 else [⟨42, rd, 0, 0, wrap32 (n - ((n + 2048) % 4096 - 2048))⟩, ⟨19, rd, rd, 0, (n + 2048) % 4096 - 2048⟩]
theorem setL_length (rd n : Int) : (setL rd n).length ≤ 2 := by
 unfold setL; repeat' split
 all_goals simp
theorem set_is (rd n : Int) (h0 : -2147483648 ≤ n) (h1 : n ≤ 2147483647) : pSet.f 5 rd n = some (setL rd n) := by
 have hb := i32_high (wrap32 (n + 2048)) (by unfold wrap32; omega) (by unfold wrap32; omega)
 have hlow : wrap32 (n - Go.bits .and .i32 (wrap32 (n + 2048)) (-4096)) = (n + 2048) % 4096 - 2048 := by
  rw [hb]; unfold wrap32; omega
 have hhigh : Go.bits .and .i32 (wrap32 (n + 2048)) (-4096) = wrap32 (n - ((n + 2048) % 4096 - 2048)) := by
  rw [hb]; unfold wrap32; omega
 unfold pSet.f pset.f pseudo_reg.f setL
 simp only [pset.j0, pseudo_short.f]
 rw [hlow, hhigh]
 by_cases a : rd ≥ 0
 · rw [if_pos a]; simp only [Option.bind_some]
   by_cases b : rd < 32
   · simp only [b, decide_true, if_true]
     by_cases c : rd = 0
     · subst c; simp
     · have c' : (rd == 0) = false := by simpa using c
       rw [if_neg (show ¬ (rd < 1 ∨ 31 < rd) by omega)]
       simp only [c']
       by_cases d : n ≥ -2048
       · simp only [d, if_true, Option.bind_some]
         by_cases e : n ≤ 2047
         · simp [e]
         · simp [e]; split <;> simp_all
       · simp [d]; split <;> simp_all
   · rw [if_pos (show (rd < 1 ∨ 31 < rd) by omega)]
     simp [b]
 · rw [if_neg a, if_pos (show (rd < 1 ∨ 31 < rd) by omega)]
   simp
def longL (rd n : Int) : List S32 :=
 if (n + 2048) % 4096 - 2048 = 0 then [⟨42, rd, 0, 0, wrap32 (n - ((n + 2048) % 4096 - 2048))⟩]
 else [⟨42, rd, 0, 0, wrap32 (n - ((n + 2048) % 4096 - 2048))⟩, ⟨19, rd, rd, 0, (n + 2048) % 4096 - 2048⟩]
theorem j2_is (k : Nat) (rd n lo : Int) (h0 : -2147483648 ≤ n) (h1 : n ≤ 2147483647) (e : lo = (n + 2048) % 4096 - 2048) :
 d12S.j2 (k + 1) rd n lo = some (longL rd n) := by
 have w1 : wrap64 n = n := by unfold wrap64; omega
 have w2 : wrap64 (n - lo) = n - lo := by unfold wrap64; omega
 have w3 : wrap32 lo = lo := by unfold wrap32; omega
 simp only [d12S.j2, w1, w2, w3]
 unfold longL
 rw [← e]
 have w4 : n - lo = 2147483648 → wrap32 (n - lo) = -2147483648 := fun h => by rw [h]; unfold wrap32; omega
 by_cases a : n - lo = 2147483648
 · rw [if_pos a, w4 a]
   by_cases b : lo = 0
   · simp [b]
   · simp [b]
 · rw [if_neg a]
   by_cases b : lo = 0
   · simp [b]
   · simp [b]
theorem j1_is (k : Nat) (rd n t : Int) (h0 : -2147483648 ≤ n) (h1 : n ≤ 2147483647) (e : t = (n + 2048) % 4096 - 2048 ∨ t = (n + 2048) % 4096 - 2048 - 4096) :
 d12S.j1 (k + 2) rd n t = some (longL rd n) := by
 have w2 : wrap64 (t + 4096) = t + 4096 := by unfold wrap64; omega
 simp only [d12S.j1, w2]
 by_cases a : t < -2048
 · rw [if_pos a]; exact j2_is k rd n _ h0 h1 (by omega)
 · rw [if_neg a]; exact j2_is k rd n _ h0 h1 (by omega)
theorem ref_is (rd n : Int) (h0 : -2147483648 ≤ n) (h1 : n ≤ 2147483647) : d12S.f 5 rd n = some (setL rd n) := by
 have w1 : wrap64 n = n := by unfold wrap64; omega
 have ht : (0 ≤ n ∧ Int.tmod n 4096 = n % 4096) ∨ (n < 0 ∧ Int.tmod n 4096 = -((-n) % 4096)) := by
  by_cases h : 0 ≤ n
  · exact .inl ⟨h, Int.tmod_eq_emod_of_nonneg h⟩
  · refine .inr ⟨by omega, ?_⟩
    have := Int.neg_tmod (-n) 4096
    rw [Int.neg_neg] at this
    rw [this, Int.tmod_eq_emod_of_nonneg (by omega)]
 have w5 : wrap64 (Int.tmod n 4096 - 4096) = Int.tmod n 4096 - 4096 := by unfold wrap64; omega
 have j0b : ∀ b : Bool, b = decide (rd < 1 ∨ 31 < rd) → d12S.j0 5 rd n b = some (setL rd n) := by
  intro b hb
  unfold setL
  by_cases a : rd < 1 ∨ 31 < rd
  · rw [if_pos a]
    have : b = true := by simp [hb, a]
    subst this
    simp [d12S.j0]
  · rw [if_neg a]
    have : b = false := by simp [hb, a]
    subst this
    simp only [d12S.j0, w1, w5]
    rw [if_neg (by simp)]
    unfold d12h.f
    have hl : (if Int.tmod n 4096 > 2047 then d12S.j1 4 rd n (Int.tmod n 4096 - 4096) else d12S.j1 4 rd n (Int.tmod n 4096)) = some (longL rd n) := by
     split
     · exact j1_is 2 rd n _ h0 h1 (by omega)
     · exact j1_is 2 rd n _ h0 h1 (by omega)
    by_cases c : n ≥ -2048
    · rw [if_pos c]; simp only [Option.bind_some]
      by_cases d : n ≤ 2047
      · simp only [d, decide_true, if_true]; rw [if_pos (show -2048 ≤ n ∧ True from ⟨c, trivial⟩)]
      · rw [if_neg (show ¬ (-2048 ≤ n ∧ n ≤ 2047) by omega)]
        simp only [d, decide_false]
        rw [if_neg (by simp), hl]; rfl
    · rw [if_neg c, if_neg (show ¬ (-2048 ≤ n ∧ n ≤ 2047) by omega)]; simp only [Option.bind_some]
      rw [if_neg (by simp), hl]; rfl
 unfold d12S.f
 split
 · exact j0b true (by simp [*])
 · exact j0b _ (by simp [*])
end Go.Proofs.Ytihecimbhhlhaaa.Pure
end
