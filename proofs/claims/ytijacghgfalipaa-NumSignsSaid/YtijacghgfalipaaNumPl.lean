/- Plain laws on words of 32 bits: signs, shifts, words bit by bit, halves of products, quotients. -/
import Derived.Test.YtijacghgfalipaaWMore
import Derived.Laws.BitsLemmas
namespace Go.Proofs.Ytijacghgfalipaa.NumPl
set_option linter.unusedVariables false
open Go.RowKit Go.Proofs.YtijacghgfalipaaW.PrintWords Go.Proofs.YtijacghgfalipaaW.PrintLast Go.Proofs.YtijacghgfalipaaW.PrintMore

theorem obind {α β : Type} (a : α) (f : α → Option β) : Option.bind (some a) f = f a := by
  have h : ∀ x, x = some a → Option.bind x f = f a := fun x hx => by rw [hx]; rfl
  exact h _ rfl

theorem wf_u32 {n : Int} (h : (Lit.int .u32 n).wf = true) : 0 ≤ n ∧ n < 4294967296 := by
  simp only [Lit.wf, Bool.and_eq_true, decide_eq_true_eq] at h
  have e1 : IntKind.u32.min = 0 := by decide
  have e2 : IntKind.u32.max = 4294967295 := by decide
  rw [e1, e2] at h
  omega

theorem wf_u8 {n : Int} (h : (Lit.int .u8 n).wf = true) : 0 ≤ n ∧ n < 256 := by
  simp only [Lit.wf, Bool.and_eq_true, decide_eq_true_eq] at h
  have e1 : IntKind.u8.min = 0 := by decide
  have e2 : IntKind.u8.max = 255 := by decide
  rw [e1, e2] at h
  omega

theorem wf_i64 {n : Int} (h : (Lit.int .i64 n).wf = true) : -9223372036854775808 ≤ n ∧ n ≤ 9223372036854775807 := by
  simp only [Lit.wf, Bool.and_eq_true, decide_eq_true_eq] at h
  have e1 : IntKind.i64.min = -9223372036854775808 := by decide
  have e2 : IntKind.i64.max = 9223372036854775807 := by decide
  rw [e1, e2] at h
  exact h

theorem wrap_u64 (n : Int) : IntKind.u64.wrap n = n % 18446744073709551616 := by simp [IntKind.wrap, IntKind.bits, IntKind.signed]

theorem w64 (n : Int) (h0 : -9223372036854775808 ≤ n) (h1 : n ≤ 9223372036854775807) : wrap64 n = n := by unfold wrap64; omega

theorem pow_pos (n : Nat) : (0 : Int) < 2 ^ n := Int.pow_pos (by decide)

theorem pow_le (n m : Nat) (h : n ≤ m) : (2 : Int) ^ n ≤ 2 ^ m := by
  have := Int.ofNat_le.mpr (Nat.pow_le_pow_right (n := 2) (by decide) h)
  rw [Int.natCast_pow, Int.natCast_pow] at this
  exact this

theorem wraps_u32 (n : Int) (h₀ : 0 ≤ n) (h₁ : n < 2 ^ 32) : IntKind.u32.wrap n = n := by rw [IntKind.wrap_u32]; omega

theorem and31 (b : Int) (h0 : 0 ≤ b) (h1 : b < 4294967296) : Go.bits .and .u32 b 31 = b % 32 :=
  bits_mask .u32 32 (by decide) wraps_u32 5 (by decide) b h0 h1

theorem shl32 (a : Int) (n : Nat) (h : n ≤ 32) : shl .u32 a (n : Int) = a * 2 ^ n % 4294967296 := by
  unfold shl
  rw [Int.toNat_natCast, Nat.min_eq_left (by simpa [IntKind.bits] using h), IntKind.wrap_u32]

theorem shr32 (a : Int) (n : Nat) (h : n ≤ 32) : shr .u32 a (n : Int) = a / 2 ^ n := by
  unfold shr; rw [Int.toNat_natCast, Nat.min_eq_left (by simpa [IntKind.bits] using h)]

theorem sar32 (a : Int) (n : Nat) (h : n ≤ 32) : shr .i32 a (n : Int) = a / 2 ^ n := by
  unfold shr; rw [Int.toNat_natCast, Nat.min_eq_left (by simpa [IntKind.bits] using h)]

theorem one64 (n : Nat) (h : n ≤ 40) : shl .i64 1 (n : Int) = 2 ^ n := by
  have hp := pow_pos n
  have hle := pow_le n 40 h
  unfold shl
  rw [Int.toNat_natCast, Nat.min_eq_left (by simp [IntKind.bits]; omega), IntKind.wrap_i64, Int.one_mul]
  omega

theorem wrap_u64_nat (n : Nat) (h : n ≤ 64) : IntKind.u64.wrap (n : Int) = n := by rw [wrap_u64]; omega

theorem tdiv_nonneg (a b : Int) (h : 0 ≤ a) : Int.tdiv a b = a / b := Int.tdiv_eq_ediv_of_nonneg h
theorem tmod_nonneg (a b : Int) (h : 0 ≤ a) : Int.tmod a b = a % b := Int.tmod_eq_emod_of_nonneg h

theorem emod_mul_emod (a n b : Int) : a % n * b % n = a * b % n := by rw [Int.mul_emod, Int.emod_emod, ← Int.mul_emod]

/-- A quotient, downward, out of one towards nought. -/
theorem floor_neg (x p : Int) (hp : 0 < p) (hx : x < 0) : (Int.tmod x p = 0 → Int.tdiv x p = x / p) ∧ (Int.tmod x p ≠ 0 → Int.tdiv x p - 1 = x / p) := by
  have hd := Int.tmod_add_mul_tdiv x p
  have e := Int.emod_add_mul_ediv x p
  have h0 := Int.emod_nonneg x (show p ≠ 0 by omega)
  have h1 := Int.emod_lt_of_pos x hp
  have h2 : Int.tmod x p ≤ 0 := by
    have := Int.tmod_nonneg (a := -x) p (by omega)
    rw [Int.neg_tmod] at this
    omega
  have h3 : -p < Int.tmod x p := by
    have := Int.tmod_lt_of_pos (-x) hp
    rw [Int.neg_tmod] at this
    omega
  constructor
  · intro h
    rw [h, Int.zero_add] at hd
    have : p * Int.tdiv x p = p * (x / p) + x % p := by omega
    have h4 : x % p = 0 := by
      have : x = p * Int.tdiv x p := hd.symm
      rw [this]; exact Int.mul_emod_right p _
    have h5 : p * Int.tdiv x p = p * (x / p) := by omega
    exact Int.eq_of_mul_eq_mul_left (by omega) h5
  · intro h
    have h4 : p * (Int.tdiv x p - 1) = p * Int.tdiv x p - p := by rw [Int.mul_sub, Int.mul_one]
    have h5 : x = p * (Int.tdiv x p - 1) + (Int.tmod x p + p) := by omega
    have h6 : (p * (Int.tdiv x p - 1) + (Int.tmod x p + p)) / p = Int.tdiv x p - 1 := by
      rw [Int.add_comm, Int.add_mul_ediv_left _ _ (by omega), Int.ediv_eq_zero_of_lt (by omega) (by omega)]
      omega
    rw [← h5] at h6
    exact h6.symm

/-- A word's bit. -/
theorem nat_bit (N i : Nat) : N / 2 ^ i % 2 = (N.testBit i).toNat := (Nat.toNat_testBit N i).symm
theorem nat_step (N i : Nat) : N / 2 ^ i = 2 * (N / 2 ^ (i + 1)) + N / 2 ^ i % 2 := by
  rw [Nat.pow_succ, ← Nat.div_div_eq_div_mul]; omega

end Go.Proofs.Ytijacghgfalipaa.NumPl
