/- Plain laws on the numbers within instructions: pieces of words as quotients and rests. -/
import Derived.Test.YtihecimbhhlhaaaRsMore
import Derived.Laws.BitsLemmas
namespace Go.Proofs.Ytihecimbhhlhaaa.ImmPlain
set_option linter.unusedVariables false
open Go.RowKit Go.Proofs.YtihecimbhhlhaaaW.PrintWords Go.Proofs.YtihecimbhhlhaaaW.PrintLast Go.Proofs.YtihecimbhhlhaaaW.PrintMore

def g1 (w : Int) : Int := if w / 1048576 % 4096 < 2048 then w / 1048576 % 4096 else w / 1048576 % 4096 - 4096
def g2 (w : Int) : Int := if w / 33554432 % 128 * 32 + w / 128 % 32 < 2048 then w / 33554432 % 128 * 32 + w / 128 % 32 else w / 33554432 % 128 * 32 + w / 128 % 32 - 4096
def g3 (w : Int) : Int := if w / 2147483648 % 2 * 4096 + w / 128 % 2 * 2048 + w / 33554432 % 64 * 32 + w / 256 % 16 * 2 < 4096 then w / 2147483648 % 2 * 4096 + w / 128 % 2 * 2048 + w / 33554432 % 64 * 32 + w / 256 % 16 * 2 else w / 2147483648 % 2 * 4096 + w / 128 % 2 * 2048 + w / 33554432 % 64 * 32 + w / 256 % 16 * 2 - 8192
def g4 (w : Int) : Int := if w / 4096 % 1048576 * 4096 < 2147483648 then w / 4096 % 1048576 * 4096 else w / 4096 % 1048576 * 4096 - 4294967296
def g5 (w : Int) : Int := if w / 2147483648 % 2 * 1048576 + w / 4096 % 256 * 4096 + w / 1048576 % 2 * 2048 + w / 2097152 % 1024 * 2 < 1048576 then w / 2147483648 % 2 * 1048576 + w / 4096 % 256 * 4096 + w / 1048576 % 2 * 2048 + w / 2097152 % 1024 * 2 else w / 2147483648 % 2 * 1048576 + w / 4096 % 256 * 4096 + w / 1048576 % 2 * 2048 + w / 2097152 % 1024 * 2 - 2097152
def p1 (n : Int) : Int := n % 4096 * 1048576
def p2 (n : Int) : Int := n / 32 % 128 * 33554432 + n % 32 * 128
def p3 (n : Int) : Int := n / 4096 % 2 * 2147483648 + n / 2048 % 2 * 128 + n / 32 % 64 * 33554432 + n / 2 % 16 * 256
def p4 (n : Int) : Int := n / 4096 % 1048576 * 4096
def p5 (n : Int) : Int := n / 1048576 % 2 * 2147483648 + n / 4096 % 256 * 4096 + n / 2048 % 2 * 1048576 + n / 2 % 1024 * 2097152
def getN (form w : Int) : Int := if form = 1 then g1 w else if form = 2 then g2 w else if form = 3 then g3 w else if form = 4 then g4 w else if form = 5 then g5 w else 0
def putN (form n : Int) : Int := if form = 1 then p1 n else if form = 2 then p2 n else if form = 3 then p3 n else if form = 4 then p4 n else if form = 5 then p5 n else 0
theorem getN_1 (w : Int) : getN 1 w = g1 w := by
  unfold getN
  rw [if_pos (show (1 : Int) = 1 from rfl)]
theorem putN_1 (w : Int) : putN 1 w = p1 w := by
  unfold putN
  rw [if_pos (show (1 : Int) = 1 from rfl)]
theorem getN_2 (w : Int) : getN 2 w = g2 w := by
  unfold getN
  rw [if_neg (show ¬((2 : Int) = 1) by decide)]
  rw [if_pos (show (2 : Int) = 2 from rfl)]
theorem putN_2 (w : Int) : putN 2 w = p2 w := by
  unfold putN
  rw [if_neg (show ¬((2 : Int) = 1) by decide)]
  rw [if_pos (show (2 : Int) = 2 from rfl)]
theorem getN_3 (w : Int) : getN 3 w = g3 w := by
  unfold getN
  rw [if_neg (show ¬((3 : Int) = 1) by decide)]
  rw [if_neg (show ¬((3 : Int) = 2) by decide)]
  rw [if_pos (show (3 : Int) = 3 from rfl)]
theorem putN_3 (w : Int) : putN 3 w = p3 w := by
  unfold putN
  rw [if_neg (show ¬((3 : Int) = 1) by decide)]
  rw [if_neg (show ¬((3 : Int) = 2) by decide)]
  rw [if_pos (show (3 : Int) = 3 from rfl)]
theorem getN_4 (w : Int) : getN 4 w = g4 w := by
  unfold getN
  rw [if_neg (show ¬((4 : Int) = 1) by decide)]
  rw [if_neg (show ¬((4 : Int) = 2) by decide)]
  rw [if_neg (show ¬((4 : Int) = 3) by decide)]
  rw [if_pos (show (4 : Int) = 4 from rfl)]
theorem putN_4 (w : Int) : putN 4 w = p4 w := by
  unfold putN
  rw [if_neg (show ¬((4 : Int) = 1) by decide)]
  rw [if_neg (show ¬((4 : Int) = 2) by decide)]
  rw [if_neg (show ¬((4 : Int) = 3) by decide)]
  rw [if_pos (show (4 : Int) = 4 from rfl)]
theorem getN_5 (w : Int) : getN 5 w = g5 w := by
  unfold getN
  rw [if_neg (show ¬((5 : Int) = 1) by decide)]
  rw [if_neg (show ¬((5 : Int) = 2) by decide)]
  rw [if_neg (show ¬((5 : Int) = 3) by decide)]
  rw [if_neg (show ¬((5 : Int) = 4) by decide)]
  rw [if_pos (show (5 : Int) = 5 from rfl)]
theorem putN_5 (w : Int) : putN 5 w = p5 w := by
  unfold putN
  rw [if_neg (show ¬((5 : Int) = 1) by decide)]
  rw [if_neg (show ¬((5 : Int) = 2) by decide)]
  rw [if_neg (show ¬((5 : Int) = 3) by decide)]
  rw [if_neg (show ¬((5 : Int) = 4) by decide)]
  rw [if_pos (show (5 : Int) = 5 from rfl)]

theorem wraps_u32 (n : Int) (h₀ : 0 ≤ n) (h₁ : n < 2 ^ 32) : IntKind.u32.wrap n = n := by rw [IntKind.wrap_u32]; omega

theorem and_mask (i : Nat) (hi : i ≤ 32) (x : Int) (h0 : 0 ≤ x) (h1 : x < 4294967296) : Go.bits .and .u32 x (2 ^ i - 1) = x % 2 ^ i :=
  bits_mask .u32 32 (by decide) wraps_u32 i hi x h0 h1

theorem or_add (i : Nat) (x y : Int) (hx0 : 0 ≤ x) (hx : x % 2 ^ i = 0) (hx1 : x < 4294967296) (hy0 : 0 ≤ y) (hy : y < 2 ^ i) (hy1 : y < 4294967296) : Go.bits .or .u32 x y = x + y :=
  bits_join .u32 32 (by decide) wraps_u32 i x y hx0 hx hx1 hy0 hy hy1

theorem or_zero (y : Int) (hy0 : 0 ≤ y) (hy1 : y < 4294967296) : Go.bits .or .u32 0 y = y := by
  rw [or_add 32 0 y (by omega) (by decide) (by omega) hy0 hy1 hy1]; omega

theorem or_range (x y : Int) (hx0 : 0 ≤ x) (hx1 : x < 4294967296) (hy0 : 0 ≤ y) (hy1 : y < 4294967296) : 0 ≤ Go.bits .or .u32 x y ∧ Go.bits .or .u32 x y < 4294967296 := by
  have e : Go.bits .or .u32 x y = IntKind.u32.wrap ((BitVec.ofInt 32 x ||| BitVec.ofInt 32 y).toNat : Int) := rfl
  rw [e, IntKind.wrap_u32]
  omega

/-- What is joined may be joined in another order. -/
theorem or_nat (x y : Int) (hx0 : 0 ≤ x) (hx1 : x < 4294967296) (hy0 : 0 ≤ y) (hy1 : y < 4294967296) : Go.bits .or .u32 x y = ((x.toNat ||| y.toNat : Nat) : Int) := by
  obtain ⟨a, rfl⟩ := Int.eq_ofNat_of_zero_le hx0
  obtain ⟨b, rfl⟩ := Int.eq_ofNat_of_zero_le hy0
  exact (bits_nat .u32 32 (by decide) wraps_u32 a b (by omega) (by omega)).2

theorem or_swap (x y z : Int) (hx0 : 0 ≤ x) (hx1 : x < 4294967296) (hy0 : 0 ≤ y) (hy1 : y < 4294967296) (hz0 : 0 ≤ z) (hz1 : z < 4294967296) :
    Go.bits .or .u32 (Go.bits .or .u32 x y) z = Go.bits .or .u32 (Go.bits .or .u32 x z) y := by
  rw [or_nat x y hx0 hx1 hy0 hy1, or_nat x z hx0 hx1 hz0 hz1]
  have b1 : x.toNat ||| y.toNat < 2 ^ 32 := Nat.or_lt_two_pow (by omega) (by omega)
  have b2 : x.toNat ||| z.toNat < 2 ^ 32 := Nat.or_lt_two_pow (by omega) (by omega)
  rw [or_nat _ _ (Int.natCast_nonneg _) (by omega) hz0 hz1, or_nat _ _ (Int.natCast_nonneg _) (by omega) hy0 hy1]
  rw [Int.toNat_natCast, Int.toNat_natCast, Nat.or_assoc, Nat.or_comm y.toNat, ← Nat.or_assoc]

/-- A word's bits from one place on, so many, and nought elsewhere. -/
theorem nat_slice (a lo m : Nat) : a &&& (2 ^ lo * (2 ^ m - 1)) = 2 ^ lo * (a / 2 ^ lo % 2 ^ m) := by
  apply Nat.eq_of_testBit_eq
  intro i
  rw [Nat.testBit_and, Nat.testBit_two_pow_mul, Nat.testBit_two_pow_mul, Nat.testBit_two_pow_sub_one, Nat.testBit_mod_two_pow, Nat.testBit_div_two_pow]
  by_cases h : i ≥ lo
  · have e3 : i - lo + lo = i := by omega
    simp only [h, decide_true, Bool.true_and, e3]
    rw [Bool.and_comm]
  · simp [h]

theorem and_nat (x y : Int) (hx0 : 0 ≤ x) (hx1 : x < 4294967296) (hy0 : 0 ≤ y) (hy1 : y < 4294967296) : Go.bits .and .u32 x y = ((x.toNat &&& y.toNat : Nat) : Int) := by
  obtain ⟨a, rfl⟩ := Int.eq_ofNat_of_zero_le hx0
  obtain ⟨b, rfl⟩ := Int.eq_ofNat_of_zero_le hy0
  exact (bits_nat .u32 32 (by decide) wraps_u32 a b (by omega) (by omega)).1

theorem g3_of (a b c d : Int) (ha : a = 0 ∨ a = 1) (hb : b = 0 ∨ b = 1) (hc0 : 0 ≤ c) (hc1 : c < 64) (hd0 : 0 ≤ d) (hd1 : d < 16) :
    g3 (a * 2147483648 + b * 128 + c * 33554432 + d * 256) = b * 2048 + c * 32 + d * 2 - a * 4096 := by
  have e1 : (a * 2147483648 + b * 128 + c * 33554432 + d * 256) / 2147483648 % 2 = a := by rcases ha with rfl | rfl <;> omega
  have e2 : (a * 2147483648 + b * 128 + c * 33554432 + d * 256) / 128 % 2 = b := by rcases hb with rfl | rfl <;> omega
  have e3 : (a * 2147483648 + b * 128 + c * 33554432 + d * 256) / 33554432 % 64 = c := by rcases hb with rfl | rfl <;> rcases ha with rfl | rfl <;> omega
  have e4 : (a * 2147483648 + b * 128 + c * 33554432 + d * 256) / 256 % 16 = d := by rcases hb with rfl | rfl <;> rcases ha with rfl | rfl <;> omega
  unfold g3
  rw [e1, e2, e3, e4]
  rcases ha with rfl | rfl <;> rcases hb with rfl | rfl <;> split <;> omega

theorem p3_of (a b c d u : Int) (ha : a = 0 ∨ a = 1) (hb : b = 0 ∨ b = 1) (hc0 : 0 ≤ c) (hc1 : c < 64) (hd0 : 0 ≤ d) (hd1 : d < 16)
    (hu : u = (b * 2048 + c * 32 + d * 2 - a * 4096) % 4294967296) : p3 u = a * 2147483648 + b * 128 + c * 33554432 + d * 256 := by
  have hu2 : u = b * 2048 + c * 32 + d * 2 + a * 4294963200 := by rcases ha with rfl | rfl <;> rcases hb with rfl | rfl <;> omega
  have e1 : u / 4096 % 2 = a := by rcases ha with rfl | rfl <;> rcases hb with rfl | rfl <;> omega
  have e2 : u / 2048 % 2 = b := by rcases ha with rfl | rfl <;> rcases hb with rfl | rfl <;> omega
  have e3 : u / 32 % 64 = c := by rcases ha with rfl | rfl <;> rcases hb with rfl | rfl <;> omega
  have e4 : u / 2 % 16 = d := by rcases ha with rfl | rfl <;> rcases hb with rfl | rfl <;> omega
  unfold p3
  rw [e1, e2, e3, e4]

theorem g5_of (a b c d : Int) (ha : a = 0 ∨ a = 1) (hc : c = 0 ∨ c = 1) (hb0 : 0 ≤ b) (hb1 : b < 256) (hd0 : 0 ≤ d) (hd1 : d < 1024) :
    g5 (a * 2147483648 + b * 4096 + c * 1048576 + d * 2097152) = b * 4096 + c * 2048 + d * 2 - a * 1048576 := by
  have e1 : (a * 2147483648 + b * 4096 + c * 1048576 + d * 2097152) / 2147483648 % 2 = a := by rcases ha with rfl | rfl <;> rcases hc with rfl | rfl <;> omega
  have e2 : (a * 2147483648 + b * 4096 + c * 1048576 + d * 2097152) / 4096 % 256 = b := by rcases ha with rfl | rfl <;> rcases hc with rfl | rfl <;> omega
  have e3 : (a * 2147483648 + b * 4096 + c * 1048576 + d * 2097152) / 1048576 % 2 = c := by rcases ha with rfl | rfl <;> rcases hc with rfl | rfl <;> omega
  have e4 : (a * 2147483648 + b * 4096 + c * 1048576 + d * 2097152) / 2097152 % 1024 = d := by rcases ha with rfl | rfl <;> rcases hc with rfl | rfl <;> omega
  unfold g5
  rw [e1, e2, e3, e4]
  rcases ha with rfl | rfl <;> rcases hc with rfl | rfl <;> split <;> omega

theorem p5_of (a b c d u : Int) (ha : a = 0 ∨ a = 1) (hc : c = 0 ∨ c = 1) (hb0 : 0 ≤ b) (hb1 : b < 256) (hd0 : 0 ≤ d) (hd1 : d < 1024)
    (hu : u = (b * 4096 + c * 2048 + d * 2 - a * 1048576) % 4294967296) : p5 u = a * 2147483648 + b * 4096 + c * 1048576 + d * 2097152 := by
  have hu2 : u = b * 4096 + c * 2048 + d * 2 + a * 4293918720 := by rcases ha with rfl | rfl <;> rcases hc with rfl | rfl <;> omega
  have e1 : u / 1048576 % 2 = a := by rcases ha with rfl | rfl <;> rcases hc with rfl | rfl <;> omega
  have e2 : u / 4096 % 256 = b := by rcases ha with rfl | rfl <;> rcases hc with rfl | rfl <;> omega
  have e3 : u / 2048 % 2 = c := by rcases ha with rfl | rfl <;> rcases hc with rfl | rfl <;> omega
  have e4 : u / 2 % 1024 = d := by rcases ha with rfl | rfl <;> rcases hc with rfl | rfl <;> omega
  unfold p5
  rw [e1, e2, e3, e4]

theorem g3_is (w : Int) : g3 w = w / 128 % 2 * 2048 + w / 33554432 % 64 * 32 + w / 256 % 16 * 2 - w / 2147483648 % 2 * 4096 := by
  unfold g3
  have h1 : w / 2147483648 % 2 = 0 ∨ w / 2147483648 % 2 = 1 := by omega
  rcases h1 with h | h <;> rw [h] <;> split <;> omega

theorem g5_is (w : Int) : g5 w = w / 4096 % 256 * 4096 + w / 1048576 % 2 * 2048 + w / 2097152 % 1024 * 2 - w / 2147483648 % 2 * 1048576 := by
  unfold g5
  have h1 : w / 2147483648 % 2 = 0 ∨ w / 2147483648 % 2 = 1 := by omega
  rcases h1 with h | h <;> rw [h] <;> split <;> omega

end Go.Proofs.Ytihecimbhhlhaaa.ImmPlain
