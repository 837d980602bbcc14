/- The lowest bits of any word, with their sign, and any word as a number (P1.1). -/
import Derived.Test.YtijacghgfalipaaNumSignsX2
import Derived.Test.YtijacghgfalipaaNumPl
import Derived.Laws.BitsAllLaws
namespace Go.Proofs.Ytijacghgfalipaa.Pure
set_option linter.unusedVariables false
open Go.RowKit Go.Proofs.Ytijacghgfalipaa.PNumSigns Go.Proofs.YtijacghgfalipaaW.PrintWords Go.Proofs.YtijacghgfalipaaW.PrintLast Go.Proofs.YtijacghgfalipaaW.PrintMore NumPl

theorem divide_is (x y : Int) : num_divide.f x y = some (if y = 0 then ((-1 : Int), x) else if x = -2147483648 ∧ y = -1 then (x, 0) else (wrap32 (Int.tdiv x y), Int.tmod x y)) := by
  unfold num_divide.f
  by_cases a : y = 0
  · rw [if_pos a, if_pos a]
  · rw [if_neg a, if_neg a]
    by_cases b : x = -2147483648
    · rw [if_pos b]
      by_cases c : y = -1
      · rw [if_pos c, if_pos ⟨b, c⟩]
      · rw [if_neg c, if_neg (fun h => c h.2)]
    · rw [if_neg b, if_neg (fun h => b h.1)]

theorem divideu_is (x y : Int) : num_divideu.f x y = some (if y = 0 then ((4294967295 : Int), x) else (Int.tdiv x y % 4294967296, Int.tmod x y)) := by
  unfold num_divideu.f
  by_cases a : y = 0
  · rw [if_pos a, if_pos a]
  · rw [if_neg a, if_neg a]

theorem mul32_is (a b : Int) (ha0 : 0 ≤ a) (ha1 : a < 4294967296) (hb0 : 0 ≤ b) (hb1 : b < 4294967296) : bits_Mul32.f a b = some (a * b / 4294967296, a * b % 4294967296) := by
  have h0 : 0 ≤ a * b := Int.mul_nonneg ha0 hb0
  have h1 : a * b ≤ 4294967295 * 4294967295 := Int.mul_le_mul (by omega) (by omega) hb0 (by omega)
  unfold bits_Mul32.f
  rw [NumPl.wrap_u64, NumPl.wrap_u64, NumPl.wrap_u64]
  rw [show a % 18446744073709551616 = a by omega, show b % 18446744073709551616 = b by omega]
  generalize a * b = P at h0 h1
  rw [show P % 18446744073709551616 = P by omega, show P / 4294967296 % 4294967296 = P / 4294967296 by omega]

/-- What Alu tells of the operations from 11 on. -/
def moreR (op a b : Int) : Int :=
  if op = 11 then a * b % 4294967296
  else if op = 15 then (if wrap32 b = 0 then -1 else if wrap32 a = -2147483648 ∧ wrap32 b = -1 then wrap32 a else wrap32 (Int.tdiv (wrap32 a) (wrap32 b))) % 4294967296
  else if op = 16 then (if b = 0 then 4294967295 else Int.tdiv a b % 4294967296)
  else if op = 17 then (if wrap32 b = 0 then wrap32 a else if wrap32 a = -2147483648 ∧ wrap32 b = -1 then 0 else Int.tmod (wrap32 a) (wrap32 b)) % 4294967296
  else if op = 18 then (if b = 0 then a else Int.tmod a b)
  else if op = 12 then (a * b / 4294967296 - (if wrap32 a < 0 then b else 0) - (if wrap32 b < 0 then a else 0)) % 4294967296
  else if op = 13 then (a * b / 4294967296 - (if wrap32 a < 0 then b else 0)) % 4294967296
  else a * b / 4294967296

theorem moreR_11 (a b : Int) : moreR 11 a b = a * b % 4294967296 := by
  unfold moreR
  rw [if_pos (show (11 : Int) = 11 from rfl)]

theorem moreR_15 (a b : Int) : moreR 15 a b = (if wrap32 b = 0 then -1 else if wrap32 a = -2147483648 ∧ wrap32 b = -1 then wrap32 a else wrap32 (Int.tdiv (wrap32 a) (wrap32 b))) % 4294967296 := by
  unfold moreR
  rw [if_neg (show ¬((15 : Int) = 11) by decide), if_pos (show (15 : Int) = 15 from rfl)]

theorem moreR_16 (a b : Int) : moreR 16 a b = (if b = 0 then 4294967295 else Int.tdiv a b % 4294967296) := by
  unfold moreR
  rw [if_neg (show ¬((16 : Int) = 11) by decide), if_neg (show ¬((16 : Int) = 15) by decide), if_pos (show (16 : Int) = 16 from rfl)]

theorem moreR_17 (a b : Int) : moreR 17 a b = (if wrap32 b = 0 then wrap32 a else if wrap32 a = -2147483648 ∧ wrap32 b = -1 then 0 else Int.tmod (wrap32 a) (wrap32 b)) % 4294967296 := by
  unfold moreR
  rw [if_neg (show ¬((17 : Int) = 11) by decide), if_neg (show ¬((17 : Int) = 15) by decide), if_neg (show ¬((17 : Int) = 16) by decide), if_pos (show (17 : Int) = 17 from rfl)]

theorem moreR_18 (a b : Int) : moreR 18 a b = (if b = 0 then a else Int.tmod a b) := by
  unfold moreR
  rw [if_neg (show ¬((18 : Int) = 11) by decide), if_neg (show ¬((18 : Int) = 15) by decide), if_neg (show ¬((18 : Int) = 16) by decide), if_neg (show ¬((18 : Int) = 17) by decide), if_pos (show (18 : Int) = 18 from rfl)]

theorem moreR_12 (a b : Int) : moreR 12 a b = (a * b / 4294967296 - (if wrap32 a < 0 then b else 0) - (if wrap32 b < 0 then a else 0)) % 4294967296 := by
  unfold moreR
  rw [if_neg (show ¬((12 : Int) = 11) by decide), if_neg (show ¬((12 : Int) = 15) by decide), if_neg (show ¬((12 : Int) = 16) by decide), if_neg (show ¬((12 : Int) = 17) by decide), if_neg (show ¬((12 : Int) = 18) by decide), if_pos (show (12 : Int) = 12 from rfl)]

theorem moreR_13 (a b : Int) : moreR 13 a b = (a * b / 4294967296 - (if wrap32 a < 0 then b else 0)) % 4294967296 := by
  unfold moreR
  rw [if_neg (show ¬((13 : Int) = 11) by decide), if_neg (show ¬((13 : Int) = 15) by decide), if_neg (show ¬((13 : Int) = 16) by decide), if_neg (show ¬((13 : Int) = 17) by decide), if_neg (show ¬((13 : Int) = 18) by decide), if_neg (show ¬((13 : Int) = 12) by decide), if_pos (show (13 : Int) = 13 from rfl)]

theorem moreR_14 (a b : Int) : moreR 14 a b = a * b / 4294967296 := by
  unfold moreR
  rw [if_neg (show ¬((14 : Int) = 11) by decide), if_neg (show ¬((14 : Int) = 15) by decide), if_neg (show ¬((14 : Int) = 16) by decide), if_neg (show ¬((14 : Int) = 17) by decide), if_neg (show ¬((14 : Int) = 18) by decide), if_neg (show ¬((14 : Int) = 12) by decide), if_neg (show ¬((14 : Int) = 13) by decide)]

theorem high_is (op a b : Int) (ha0 : 0 ≤ a) (ha1 : a < 4294967296) (hb0 : 0 ≤ b) (hb1 : b < 4294967296) (ho : op = 12 ∨ op = 13 ∨ op = 14) :
    num_high.f 3 op a b = some (moreR op a b) := by
  have h0 : 0 ≤ a * b := Int.mul_nonneg ha0 hb0
  have h1 : a * b ≤ 4294967295 * 4294967295 := Int.mul_le_mul (by omega) (by omega) hb0 (by omega)
  unfold num_high.f
  rw [mul32_is a b ha0 ha1 hb0 hb1, obind]
  simp only [num_high.j0]
  rcases ho with rfl | rfl | rfl
  · rw [moreR_12]
    generalize a * b = P at h0 h1
    by_cases c : wrap32 a < 0 <;> by_cases d : wrap32 b < 0 <;> simp [c, d] <;> omega
  · rw [moreR_13]
    generalize a * b = P at h0 h1
    by_cases c : wrap32 a < 0 <;> simp [c] <;> omega
  · rw [moreR_14]; simp

theorem alu_more (op a b : Int) (ha0 : 0 ≤ a) (ha1 : a < 4294967296) (hb0 : 0 ≤ b) (hb1 : b < 4294967296) (h0 : 11 ≤ op) (h1 : op ≤ 18) :
    num_Alu.f 4 op a b = some (moreR op a b, true) := by
  have hh := high_is op a b ha0 ha1 hb0 hb1
  unfold num_Alu.f
  rw [if_neg (by omega)]
  rw [decide_eq_false (by omega)]
  simp only [num_Alu.j0]
  rw [if_neg (by decide), if_neg (by omega), divide_is, obind, divideu_is, obind]
  by_cases c1 : op = 11
  · subst c1; rw [moreR_11, if_pos rfl]
  by_cases c2 : op = 15
  · subst c2
    rw [moreR_15, if_neg (show ¬((15 : Int) = 11) by decide), if_pos (show (15 : Int) = 15 from rfl)]
    by_cases d : wrap32 b = 0
    · rw [if_pos d, if_pos d]
    · rw [if_neg d, if_neg d]
      by_cases e : wrap32 a = -2147483648 ∧ wrap32 b = -1
      · rw [if_pos e, if_pos e]
      · rw [if_neg e, if_neg e]
  by_cases c3 : op = 16
  · subst c3
    rw [moreR_16, if_neg (show ¬((16 : Int) = 11) by decide), if_neg (show ¬((16 : Int) = 15) by decide), if_pos (show (16 : Int) = 16 from rfl)]
    by_cases d : b = 0
    · rw [if_pos d, if_pos d]
    · rw [if_neg d, if_neg d]
  by_cases c4 : op = 17
  · subst c4
    rw [moreR_17, if_neg (show ¬((17 : Int) = 11) by decide), if_neg (show ¬((17 : Int) = 15) by decide), if_neg (show ¬((17 : Int) = 16) by decide), if_pos (show (17 : Int) = 17 from rfl)]
    by_cases d : wrap32 b = 0
    · rw [if_pos d, if_pos d]
    · rw [if_neg d, if_neg d]
      by_cases e : wrap32 a = -2147483648 ∧ wrap32 b = -1
      · rw [if_pos e, if_pos e]
      · rw [if_neg e, if_neg e]
  by_cases c5 : op = 18
  · subst c5
    rw [moreR_18, if_neg (show ¬((18 : Int) = 11) by decide), if_neg (show ¬((18 : Int) = 15) by decide), if_neg (show ¬((18 : Int) = 16) by decide), if_neg (show ¬((18 : Int) = 17) by decide), if_pos (show (18 : Int) = 18 from rfl)]
    by_cases d : b = 0
    · rw [if_pos d, if_pos d]
    · rw [if_neg d, if_neg d]
  rw [if_neg c1, if_neg c2, if_neg c3, if_neg c4, if_neg c5, hh (by omega), obind]

theorem alu_none (op a b : Int) (h : op < 1 ∨ 18 < op) : num_Alu.f 4 op a b = some (0, false) := by
  unfold num_Alu.f
  by_cases c : op < 1
  · rw [if_pos c]; simp only [num_Alu.j0]; rw [if_pos trivial]
  · rw [if_neg c, decide_eq_true (by omega)]; simp only [num_Alu.j0]; rw [if_pos trivial]

theorem plain_some (op a b : Int) (hb0 : 0 ≤ b) (hb1 : b < 4294967296) : ∃ r, num_plain.f op a b = some r := by
  have e := and31 b hb0 hb1
  have h0 : 0 ≤ b % 32 := by omega
  unfold num_plain.f num_bit.f
  rw [e, if_pos h0]
  repeat' split
  all_goals exact ⟨_, rfl⟩

theorem alu_some (op a b : Int) (ha0 : 0 ≤ a) (ha1 : a < 4294967296) (hb0 : 0 ≤ b) (hb1 : b < 4294967296) (h0 : 1 ≤ op) (h1 : op ≤ 18) : ∃ r, num_Alu.f 4 op a b = some (r, true) := by
  by_cases c : 11 ≤ op
  · exact ⟨_, alu_more op a b ha0 ha1 hb0 hb1 c h1⟩
  · obtain ⟨r, hr⟩ := plain_some op a b hb0 hb1
    refine ⟨r, ?_⟩
    unfold num_Alu.f
    rw [if_neg (by omega), decide_eq_false (by omega)]
    simp only [num_Alu.j0]
    rw [if_neg (by decide), if_pos (by omega), hr, obind]

theorem lives_is : pintlelaw01_lives.f 4 = some true := by
  unfold pintlelaw01_lives.f
  rw [alu_more 15 4294967289 2 (by decide) (by decide) (by decide) (by decide) (by decide) (by decide), obind]
  have e : moreR 15 4294967289 2 = 4294967293 := by decide +kernel
  rw [e]
  have e2 : num_Sext.f 4095 12 = some 4294967295 := by decide +kernel
  rw [if_pos rfl, if_pos rfl, e2, obind]
  rfl

theorem sgn (a : Int) (h0 : 0 ≤ a) (h1 : a < 4294967296) : (wrap32 a = a ∧ a < 2147483648 ∧ ¬ wrap32 a < 0) ∨ (wrap32 a = a - 4294967296 ∧ 2147483648 ≤ a ∧ wrap32 a < 0) := by
  unfold wrap32; omega

theorem signed_is (a : Int) (h0 : 0 ≤ a) (h1 : a < 4294967296) : pintleref01_Signed.f a = some (wrap32 a) := by
  have e : wrap64 a = a := by unfold wrap64; omega
  unfold pintleref01_Signed.f
  rw [e]
  by_cases c : a ≥ 2147483648
  · rw [if_pos c]; congr 1; unfold wrap64 wrap32; omega
  · rw [if_neg c]; congr 1; unfold wrap32; omega

theorem prod_ss (a b : Int) (ha0 : 0 ≤ a) (ha1 : a < 4294967296) (hb0 : 0 ≤ b) (hb1 : b < 4294967296) :
    wrap32 a * wrap32 b = a * b - 4294967296 * (if wrap32 a < 0 then b else 0) - 4294967296 * (if wrap32 b < 0 then a else 0) + (if wrap32 a < 0 then (if wrap32 b < 0 then 18446744073709551616 else 0) else 0) := by
  rcases sgn a ha0 ha1 with ⟨e, _, n⟩ | ⟨e, _, n⟩ <;> rcases sgn b hb0 hb1 with ⟨f, _, m⟩ | ⟨f, _, m⟩
  · rw [if_neg n, if_neg m, if_neg n, e, f]; omega
  · rw [if_neg n, if_pos m, if_neg n, e, f, Int.mul_sub, Int.mul_comm a 4294967296]; omega
  · rw [if_pos n, if_neg m, if_pos n, if_neg m, e, f, Int.sub_mul]; omega
  · rw [if_pos n, if_pos m, if_pos n, if_pos m, e, f, Int.sub_mul, Int.mul_sub, Int.mul_sub, Int.mul_comm a 4294967296]; omega

theorem prod_bd (x y : Int) (hx0 : -2147483648 ≤ x) (hx1 : x ≤ 2147483647) (hy0 : -4294967296 ≤ y) (hy1 : y ≤ 4294967296) : -9223372036854775808 ≤ x * y ∧ x * y ≤ 9223372036854775808 := by
  have h := Int.natAbs_mul x y
  have h1 : x.natAbs ≤ 2147483648 := by omega
  have h2 : y.natAbs ≤ 4294967296 := by omega
  have h3 : x.natAbs * y.natAbs ≤ 2147483648 * 4294967296 := Nat.mul_le_mul h1 h2
  omega

theorem word_is (n : Int) : pintleref01_Word.f n = some (n % 4294967296) := by
  unfold pintleref01_Word.f
  rw [NumPl.wrap_u64, tmod_nonneg _ _ (by omega)]
  congr 1; omega

theorem sext_both (w : Int) (bits : Int) (h0 : 0 ≤ w) (h1 : w < 4294967296) (hb0 : -9223372036854775808 ≤ bits) (hb1 : bits ≤ 9223372036854775807) : ∃ r, num_Sext.f w bits = some r ∧ pintleref01_Sext.f w bits = some r := by
  unfold num_Sext.f pintleref01_Sext.f
  by_cases c : bits < 1
  · exact ⟨0, if_pos c, if_pos c⟩
  · by_cases d : bits > 31
    · exact ⟨w, by rw [if_neg c, if_pos (by omega)], by rw [if_neg c, if_pos d]⟩
    · rw [if_neg c, if_neg (show ¬ bits ≥ 32 by omega), if_neg c, if_neg d]
      obtain ⟨n, rfl⟩ := Int.eq_ofNat_of_zero_le (show 0 ≤ bits by omega)
      obtain ⟨m, rfl⟩ : ∃ m, n = m + 1 := ⟨n - 1, by omega⟩
      have hm : m ≤ 30 := by omega
      have e1 : wrap64 (32 - ((m + 1 : Nat) : Int)) = ((31 - m : Nat) : Int) := by unfold wrap64; omega
      have e2 : wrap64 (((m + 1 : Nat) : Int) - 1) = ((m : Nat) : Int) := by unfold wrap64; omega
      have ew : wrap64 w = w := w64 w (by omega) (by omega)
      rw [e1, e2, ew, if_pos (by omega), wrap_u64_nat (m + 1) (by omega), wrap_u64_nat m (by omega), if_pos (by omega), one64 (m + 1) (by omega), one64 m (by omega), shl32 _ _ (by omega), sar32 _ _ (by omega), tmod_nonneg w _ h0]
      have hp := pow_pos (m + 1)
      have hh := pow_pos m
      have hq := pow_pos (31 - m)
      have hpq : (2 : Int) ^ (m + 1) * 2 ^ (31 - m) = 4294967296 := by
        rw [← Int.pow_add, show m + 1 + (31 - m) = 32 from by omega]; rfl
      have hhq : (2 : Int) ^ m * 2 ^ (31 - m) = 2147483648 := by
        rw [← Int.pow_add, show m + (31 - m) = 31 from by omega]; rfl
      rw [if_neg (by omega), if_pos (by omega)]
      have hr0 := Int.emod_nonneg w (show (2 : Int) ^ (m + 1) ≠ 0 by omega)
      have hr1 := Int.emod_lt_of_pos w hp
      have hle : (2 : Int) ^ (m + 1) ≤ 4294967296 := pow_le (m + 1) 32 (by omega)
      have e3 : w * 2 ^ (31 - m) % 4294967296 = w % 2 ^ (m + 1) * 2 ^ (31 - m) := by
        rw [← hpq, Int.mul_comm w, Int.mul_comm (2 ^ (m + 1)), Int.mul_emod_mul_of_pos _ _ hq, Int.mul_comm]
      rw [e3]
      generalize w % 2 ^ (m + 1) = r at hr0 hr1
      generalize (2 : Int) ^ (m + 1) = p at hp hpq hr1 hle
      generalize (2 : Int) ^ m = h at hh hhq
      generalize (2 : Int) ^ (31 - m) = q at hq hpq hhq
      have hrq0 : 0 ≤ r * q := Int.mul_nonneg hr0 (by omega)
      have hrq1 : r * q < p * q := Int.mul_lt_mul_of_pos_right hr1 hq
      by_cases f : r ≥ h
      · have hge : h * q ≤ r * q := Int.mul_le_mul_of_nonneg_right f (by omega)
        refine ⟨(r - p) % 4294967296, ?_, ?_⟩
        · have e4 : wrap32 (r * q) = (r - p) * q := by
            rw [Int.sub_mul, hpq]; unfold wrap32; omega
          rw [e4, Int.mul_ediv_cancel _ (by omega)]
        · rw [if_pos f, word_is, obind, w64 _ (by omega) (by omega)]
      · have hlt : r * q < h * q := Int.mul_lt_mul_of_pos_right (by omega) hq
        refine ⟨r % 4294967296, ?_, ?_⟩
        · have e4 : wrap32 (r * q) = r * q := by unfold wrap32; omega
          rw [e4, Int.mul_ediv_cancel _ (by omega)]
        · rw [if_neg f, word_is, obind]

theorem NumSigns : pintlelaw01_NumSigns.Pure := by
  intro w bits hw hb
  have h1 := wf_u32 hw
  have h2 := wf_i64 hb
  refine ⟨4, ?_⟩
  obtain ⟨r, hr, hq⟩ := sext_both w bits h1.1 h1.2 h2.1 h2.2
  unfold pintlelaw01_NumSigns.f num_Signed.f
  have e : wrap64 (wrap32 w) = wrap32 w := w64 _ (by unfold wrap32; omega) (by unfold wrap32; omega)
  rw [hr, hq, obind, obind, if_pos rfl, obind, signed_is w h1.1 h1.2, obind, e, if_pos rfl, lives_is, obind]

end Go.Proofs.Ytijacghgfalipaa.Pure
