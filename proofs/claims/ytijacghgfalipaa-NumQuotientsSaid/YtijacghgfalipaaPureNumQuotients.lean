/- All quotients and rests, by nought too (P1.2). -/
import Derived.Test.YtijacghgfalipaaNumQuotientsX2
import Derived.Test.YtijacghgfalipaaNumPl
import Derived.Laws.BitsAllLaws
namespace Go.Proofs.Ytijacghgfalipaa.Pure
set_option linter.unusedVariables false
open Go.RowKit Go.Proofs.Ytijacghgfalipaa.PNumQuotients Go.Proofs.YtijacghgfalipaaW.PrintWords Go.Proofs.YtijacghgfalipaaW.PrintLast Go.Proofs.YtijacghgfalipaaW.PrintMore NumPl

theorem divide_is (x y : Int) : num_divide.f x y = some (if y = 0 then ((-1 : Int), x) else if x = -2147483648 ∧ y = -1 then (x, 0) else (wrap32 (Int.tdiv x y), Int.tmod x y)) := by
  unfold num_divide.f
  by_cases a : y = 0
  · rw [if_pos a, if_pos a]
  · rw [if_neg a, if_neg a]
    by_cases b : x = -2147483648
    · rw [if_pos b]
      by_cases c : y = -1
      · rw [if_pos c, if_pos ⟨b, c⟩]
      · rw [if_neg c, if_neg (fun h => c h.2)]
    · rw [if_neg b, if_neg (fun h => b h.1)]

theorem divideu_is (x y : Int) : num_divideu.f x y = some (if y = 0 then ((4294967295 : Int), x) else (Int.tdiv x y % 4294967296, Int.tmod x y)) := by
  unfold num_divideu.f
  by_cases a : y = 0
  · rw [if_pos a, if_pos a]
  · rw [if_neg a, if_neg a]

theorem mul32_is (a b : Int) (ha0 : 0 ≤ a) (ha1 : a < 4294967296) (hb0 : 0 ≤ b) (hb1 : b < 4294967296) : bits_Mul32.f a b = some (a * b / 4294967296, a * b % 4294967296) := by
  have h0 : 0 ≤ a * b := Int.mul_nonneg ha0 hb0
  have h1 : a * b ≤ 4294967295 * 4294967295 := Int.mul_le_mul (by omega) (by omega) hb0 (by omega)
  unfold bits_Mul32.f
  rw [NumPl.wrap_u64, NumPl.wrap_u64, NumPl.wrap_u64]
  rw [show a % 18446744073709551616 = a by omega, show b % 18446744073709551616 = b by omega]
  generalize a * b = P at h0 h1
  rw [show P % 18446744073709551616 = P by omega, show P / 4294967296 % 4294967296 = P / 4294967296 by omega]

/-- What Alu tells of the operations from 11 on. -/
def moreR (op a b : Int) : Int :=
  if op = 11 then a * b % 4294967296
  else if op = 15 then (if wrap32 b = 0 then -1 else if wrap32 a = -2147483648 ∧ wrap32 b = -1 then wrap32 a else wrap32 (Int.tdiv (wrap32 a) (wrap32 b))) % 4294967296
  else if op = 16 then (if b = 0 then 4294967295 else Int.tdiv a b % 4294967296)
  else if op = 17 then (if wrap32 b = 0 then wrap32 a else if wrap32 a = -2147483648 ∧ wrap32 b = -1 then 0 else Int.tmod (wrap32 a) (wrap32 b)) % 4294967296
  else if op = 18 then (if b = 0 then a else Int.tmod a b)
  else if op = 12 then (a * b / 4294967296 - (if wrap32 a < 0 then b else 0) - (if wrap32 b < 0 then a else 0)) % 4294967296
  else if op = 13 then (a * b / 4294967296 - (if wrap32 a < 0 then b else 0)) % 4294967296
  else a * b / 4294967296

theorem moreR_11 (a b : Int) : moreR 11 a b = a * b % 4294967296 := by
  unfold moreR
  rw [if_pos (show (11 : Int) = 11 from rfl)]

theorem moreR_15 (a b : Int) : moreR 15 a b = (if wrap32 b = 0 then -1 else if wrap32 a = -2147483648 ∧ wrap32 b = -1 then wrap32 a else wrap32 (Int.tdiv (wrap32 a) (wrap32 b))) % 4294967296 := by
  unfold moreR
  rw [if_neg (show ¬((15 : Int) = 11) by decide), if_pos (show (15 : Int) = 15 from rfl)]

theorem moreR_16 (a b : Int) : moreR 16 a b = (if b = 0 then 4294967295 else Int.tdiv a b % 4294967296) := by
  unfold moreR
  rw [if_neg (show ¬((16 : Int) = 11) by decide), if_neg (show ¬((16 : Int) = 15) by decide), if_pos (show (16 : Int) = 16 from rfl)]

theorem moreR_17 (a b : Int) : moreR 17 a b = (if wrap32 b = 0 then wrap32 a else if wrap32 a = -2147483648 ∧ wrap32 b = -1 then 0 else Int.tmod (wrap32 a) (wrap32 b)) % 4294967296 := by
  unfold moreR
  rw [if_neg (show ¬((17 : Int) = 11) by decide), if_neg (show ¬((17 : Int) = 15) by decide), if_neg (show ¬((17 : Int) = 16) by decide), if_pos (show (17 : Int) = 17 from rfl)]

theorem moreR_18 (a b : Int) : moreR 18 a b = (if b = 0 then a else Int.tmod a b) := by
  unfold moreR
  rw [if_neg (show ¬((18 : Int) = 11) by decide), if_neg (show ¬((18 : Int) = 15) by decide), if_neg (show ¬((18 : Int) = 16) by decide), if_neg (show ¬((18 : Int) = 17) by decide), if_pos (show (18 : Int) = 18 from rfl)]

theorem moreR_12 (a b : Int) : moreR 12 a b = (a * b / 4294967296 - (if wrap32 a < 0 then b else 0) - (if wrap32 b < 0 then a else 0)) % 4294967296 := by
  unfold moreR
  rw [if_neg (show ¬((12 : Int) = 11) by decide), if_neg (show ¬((12 : Int) = 15) by decide), if_neg (show ¬((12 : Int) = 16) by decide), if_neg (show ¬((12 : Int) = 17) by decide), if_neg (show ¬((12 : Int) = 18) by decide), if_pos (show (12 : Int) = 12 from rfl)]

theorem moreR_13 (a b : Int) : moreR 13 a b = (a * b / 4294967296 - (if wrap32 a < 0 then b else 0)) % 4294967296 := by
  unfold moreR
  rw [if_neg (show ¬((13 : Int) = 11) by decide), if_neg (show ¬((13 : Int) = 15) by decide), if_neg (show ¬((13 : Int) = 16) by decide), if_neg (show ¬((13 : Int) = 17) by decide), if_neg (show ¬((13 : Int) = 18) by decide), if_neg (show ¬((13 : Int) = 12) by decide), if_pos (show (13 : Int) = 13 from rfl)]

theorem moreR_14 (a b : Int) : moreR 14 a b = a * b / 4294967296 := by
  unfold moreR
  rw [if_neg (show ¬((14 : Int) = 11) by decide), if_neg (show ¬((14 : Int) = 15) by decide), if_neg (show ¬((14 : Int) = 16) by decide), if_neg (show ¬((14 : Int) = 17) by decide), if_neg (show ¬((14 : Int) = 18) by decide), if_neg (show ¬((14 : Int) = 12) by decide), if_neg (show ¬((14 : Int) = 13) by decide)]

theorem high_is (op a b : Int) (ha0 : 0 ≤ a) (ha1 : a < 4294967296) (hb0 : 0 ≤ b) (hb1 : b < 4294967296) (ho : op = 12 ∨ op = 13 ∨ op = 14) :
    num_high.f 3 op a b = some (moreR op a b) := by
  have h0 : 0 ≤ a * b := Int.mul_nonneg ha0 hb0
  have h1 : a * b ≤ 4294967295 * 4294967295 := Int.mul_le_mul (by omega) (by omega) hb0 (by omega)
  unfold num_high.f
  rw [mul32_is a b ha0 ha1 hb0 hb1, obind]
  simp only [num_high.j0]
  rcases ho with rfl | rfl | rfl
  · rw [moreR_12]
    generalize a * b = P at h0 h1
    by_cases c : wrap32 a < 0 <;> by_cases d : wrap32 b < 0 <;> simp [c, d] <;> omega
  · rw [moreR_13]
    generalize a * b = P at h0 h1
    by_cases c : wrap32 a < 0 <;> simp [c] <;> omega
  · rw [moreR_14]; simp

theorem alu_more (op a b : Int) (ha0 : 0 ≤ a) (ha1 : a < 4294967296) (hb0 : 0 ≤ b) (hb1 : b < 4294967296) (h0 : 11 ≤ op) (h1 : op ≤ 18) :
    num_Alu.f 4 op a b = some (moreR op a b, true) := by
  have hh := high_is op a b ha0 ha1 hb0 hb1
  unfold num_Alu.f
  rw [if_neg (by omega)]
  rw [decide_eq_false (by omega)]
  simp only [num_Alu.j0]
  rw [if_neg (by decide), if_neg (by omega), divide_is, obind, divideu_is, obind]
  by_cases c1 : op = 11
  · subst c1; rw [moreR_11, if_pos rfl]
  by_cases c2 : op = 15
  · subst c2
    rw [moreR_15, if_neg (show ¬((15 : Int) = 11) by decide), if_pos (show (15 : Int) = 15 from rfl)]
    by_cases d : wrap32 b = 0
    · rw [if_pos d, if_pos d]
    · rw [if_neg d, if_neg d]
      by_cases e : wrap32 a = -2147483648 ∧ wrap32 b = -1
      · rw [if_pos e, if_pos e]
      · rw [if_neg e, if_neg e]
  by_cases c3 : op = 16
  · subst c3
    rw [moreR_16, if_neg (show ¬((16 : Int) = 11) by decide), if_neg (show ¬((16 : Int) = 15) by decide), if_pos (show (16 : Int) = 16 from rfl)]
    by_cases d : b = 0
    · rw [if_pos d, if_pos d]
    · rw [if_neg d, if_neg d]
  by_cases c4 : op = 17
  · subst c4
    rw [moreR_17, if_neg (show ¬((17 : Int) = 11) by decide), if_neg (show ¬((17 : Int) = 15) by decide), if_neg (show ¬((17 : Int) = 16) by decide), if_pos (show (17 : Int) = 17 from rfl)]
    by_cases d : wrap32 b = 0
    · rw [if_pos d, if_pos d]
    · rw [if_neg d, if_neg d]
      by_cases e : wrap32 a = -2147483648 ∧ wrap32 b = -1
      · rw [if_pos e, if_pos e]
      · rw [if_neg e, if_neg e]
  by_cases c5 : op = 18
  · subst c5
    rw [moreR_18, if_neg (show ¬((18 : Int) = 11) by decide), if_neg (show ¬((18 : Int) = 15) by decide), if_neg (show ¬((18 : Int) = 16) by decide), if_neg (show ¬((18 : Int) = 17) by decide), if_pos (show (18 : Int) = 18 from rfl)]
    by_cases d : b = 0
    · rw [if_pos d, if_pos d]
    · rw [if_neg d, if_neg d]
  rw [if_neg c1, if_neg c2, if_neg c3, if_neg c4, if_neg c5, hh (by omega), obind]

theorem alu_none (op a b : Int) (h : op < 1 ∨ 18 < op) : num_Alu.f 4 op a b = some (0, false) := by
  unfold num_Alu.f
  by_cases c : op < 1
  · rw [if_pos c]; simp only [num_Alu.j0]; rw [if_pos trivial]
  · rw [if_neg c, decide_eq_true (by omega)]; simp only [num_Alu.j0]; rw [if_pos trivial]

theorem plain_some (op a b : Int) (hb0 : 0 ≤ b) (hb1 : b < 4294967296) : ∃ r, num_plain.f op a b = some r := by
  have e := and31 b hb0 hb1
  have h0 : 0 ≤ b % 32 := by omega
  unfold num_plain.f num_bit.f
  rw [e, if_pos h0]
  repeat' split
  all_goals exact ⟨_, rfl⟩

theorem alu_some (op a b : Int) (ha0 : 0 ≤ a) (ha1 : a < 4294967296) (hb0 : 0 ≤ b) (hb1 : b < 4294967296) (h0 : 1 ≤ op) (h1 : op ≤ 18) : ∃ r, num_Alu.f 4 op a b = some (r, true) := by
  by_cases c : 11 ≤ op
  · exact ⟨_, alu_more op a b ha0 ha1 hb0 hb1 c h1⟩
  · obtain ⟨r, hr⟩ := plain_some op a b hb0 hb1
    refine ⟨r, ?_⟩
    unfold num_Alu.f
    rw [if_neg (by omega), decide_eq_false (by omega)]
    simp only [num_Alu.j0]
    rw [if_neg (by decide), if_pos (by omega), hr, obind]

theorem lives_is : pintlelaw01_lives.f 4 = some true := by
  unfold pintlelaw01_lives.f
  rw [alu_more 15 4294967289 2 (by decide) (by decide) (by decide) (by decide) (by decide) (by decide), obind]
  have e : moreR 15 4294967289 2 = 4294967293 := by decide +kernel
  rw [e]
  have e2 : num_Sext.f 4095 12 = some 4294967295 := by decide +kernel
  rw [if_pos rfl, if_pos rfl, e2, obind]
  rfl

theorem sgn (a : Int) (h0 : 0 ≤ a) (h1 : a < 4294967296) : (wrap32 a = a ∧ a < 2147483648 ∧ ¬ wrap32 a < 0) ∨ (wrap32 a = a - 4294967296 ∧ 2147483648 ≤ a ∧ wrap32 a < 0) := by
  unfold wrap32; omega

theorem signed_is (a : Int) (h0 : 0 ≤ a) (h1 : a < 4294967296) : pintleref01_Signed.f a = some (wrap32 a) := by
  have e : wrap64 a = a := by unfold wrap64; omega
  unfold pintleref01_Signed.f
  rw [e]
  by_cases c : a ≥ 2147483648
  · rw [if_pos c]; congr 1; unfold wrap64 wrap32; omega
  · rw [if_neg c]; congr 1; unfold wrap32; omega

theorem prod_ss (a b : Int) (ha0 : 0 ≤ a) (ha1 : a < 4294967296) (hb0 : 0 ≤ b) (hb1 : b < 4294967296) :
    wrap32 a * wrap32 b = a * b - 4294967296 * (if wrap32 a < 0 then b else 0) - 4294967296 * (if wrap32 b < 0 then a else 0) + (if wrap32 a < 0 then (if wrap32 b < 0 then 18446744073709551616 else 0) else 0) := by
  rcases sgn a ha0 ha1 with ⟨e, _, n⟩ | ⟨e, _, n⟩ <;> rcases sgn b hb0 hb1 with ⟨f, _, m⟩ | ⟨f, _, m⟩
  · rw [if_neg n, if_neg m, if_neg n, e, f]; omega
  · rw [if_neg n, if_pos m, if_neg n, e, f, Int.mul_sub, Int.mul_comm a 4294967296]; omega
  · rw [if_pos n, if_neg m, if_pos n, if_neg m, e, f, Int.sub_mul]; omega
  · rw [if_pos n, if_pos m, if_pos n, if_pos m, e, f, Int.sub_mul, Int.mul_sub, Int.mul_sub, Int.mul_comm a 4294967296]; omega

theorem prod_bd (x y : Int) (hx0 : -2147483648 ≤ x) (hx1 : x ≤ 2147483647) (hy0 : -4294967296 ≤ y) (hy1 : y ≤ 4294967296) : -9223372036854775808 ≤ x * y ∧ x * y ≤ 9223372036854775808 := by
  have h := Int.natAbs_mul x y
  have h1 : x.natAbs ≤ 2147483648 := by omega
  have h2 : y.natAbs ≤ 4294967296 := by omega
  have h3 : x.natAbs * y.natAbs ≤ 2147483648 * 4294967296 := Nat.mul_le_mul h1 h2
  omega

theorem word_is (n : Int) : pintleref01_Word.f n = some (n % 4294967296) := by
  unfold pintleref01_Word.f
  rw [NumPl.wrap_u64, tmod_nonneg _ _ (by omega)]
  congr 1; omega

theorem floor_is (x : Int) (n : Nat) (hn : n ≤ 40) (h0 : -9223372036854775808 ≤ x) (h1 : x ≤ 9223372036854775807) : pintleref01_floor.f x n = some (x / 2 ^ n) := by
  have hp := pow_pos n
  have hw := wrap_u64_nat n (by omega)
  unfold pintleref01_floor.f
  rw [hw, one64 n hn, if_pos (by omega)]
  generalize (2 : Int) ^ n = p at hp
  by_cases c : x < 0
  · have hb0 : x ≤ x / p := (Int.le_ediv_iff_mul_le hp).mpr (by
      have h5 := Int.mul_nonpos_of_nonpos_of_nonneg (a := x) (b := p - 1) (by omega) (by omega)
      rw [Int.mul_sub, Int.mul_one] at h5
      omega)
    have hb1 : x / p < 0 := Int.ediv_neg_of_neg_of_pos c hp
    obtain ⟨f1, f2⟩ := floor_neg x p hp c
    rw [if_pos c, if_neg (by omega)]
    by_cases d : Int.tmod x p = 0
    · rw [if_pos d, f1 d, w64 _ (by omega) (by omega)]
    · have e := f2 d
      rw [if_neg d, w64 (Int.tdiv x p) (by omega) (by omega), e, w64 _ (by omega) (by omega)]
  · have hb0 : 0 ≤ x / p := Int.ediv_nonneg (by omega) (by omega)
    have hb1 : x / p ≤ x := Int.ediv_le_self _ (by omega)
    rw [if_neg c, if_neg (by omega), tdiv_nonneg _ _ (by omega), w64 _ (by omega) (by omega)]

theorem div_is (x y : Int) : pintleref01_div.f x y = some (if y = 0 then ((-1 : Int), x) else (wrap64 (Int.tdiv x y), Int.tmod x y)) := by
  unfold pintleref01_div.f
  by_cases a : y = 0
  · rw [if_pos a, if_pos a]
  · rw [if_neg a, if_neg a]

theorem w64_mod (q : Int) : wrap64 q % 4294967296 = q % 4294967296 := by unfold wrap64; omega

theorem ref_more (op a b : Int) (ha0 : 0 ≤ a) (ha1 : a < 4294967296) (hb0 : 0 ≤ b) (hb1 : b < 4294967296) (h0 : 11 ≤ op) (h1 : op ≤ 18) :
    pintleref01_more.f op (wrap32 a) (wrap32 b) a b = some (moreR op a b, true) := by
  have hP0 : 0 ≤ a * b := Int.mul_nonneg ha0 hb0
  have hP1 : a * b ≤ 4294967295 * 4294967295 := Int.mul_le_mul (by omega) (by omega) hb0 (by omega)
  have ra : -2147483648 ≤ wrap32 a ∧ wrap32 a ≤ 2147483647 := by unfold wrap32; omega
  have rb : -2147483648 ≤ wrap32 b ∧ wrap32 b ≤ 2147483647 := by unfold wrap32; omega
  have b1 := prod_bd (wrap32 a) (wrap32 b) ra.1 ra.2 (by omega) (by omega)
  have b2 := prod_bd (wrap32 a) b ra.1 ra.2 (by omega) (by omega)
  have p1 := prod_ss a b ha0 ha1 hb0 hb1
  unfold pintleref01_more.f
  rw [div_is, obind, div_is, obind]
  have hop : op = 11 ∨ op = 12 ∨ op = 13 ∨ op = 14 ∨ op = 15 ∨ op = 16 ∨ op = 17 ∨ op = 18 := by omega
  rcases hop with rfl | rfl | rfl | rfl | rfl | rfl | rfl | rfl
  · rw [if_pos rfl, word_is, obind, w64_mod, moreR_11, p1]
    congr 2
    generalize a * b = P
    generalize (if wrap32 a < 0 then b else 0) = u
    generalize (if wrap32 b < 0 then a else 0) = v
    repeat' split
    all_goals omega
  · rw [if_neg (by decide), if_pos rfl]
    have hb : wrap64 (wrap32 a * wrap32 b) = wrap32 a * wrap32 b ∨ wrap32 a * wrap32 b = 9223372036854775808 := by unfold wrap64; omega
    have hne : wrap32 a * wrap32 b ≤ 2147483648 * 2147483648 := by
      have h := Int.natAbs_mul (wrap32 a) (wrap32 b)
      have h2 : (wrap32 a).natAbs ≤ 2147483648 := by omega
      have h3 : (wrap32 b).natAbs ≤ 2147483648 := by omega
      have h4 : (wrap32 a).natAbs * (wrap32 b).natAbs ≤ 2147483648 * 2147483648 := Nat.mul_le_mul h2 h3
      omega
    rw [w64 _ b1.1 (by omega), show pintleref01_floor.f (wrap32 a * wrap32 b) 32 = some (wrap32 a * wrap32 b / 2 ^ 32) from floor_is _ 32 (by decide) b1.1 (by omega), obind, word_is, obind, moreR_12, p1]
    congr 2
    generalize a * b = P
    generalize (if wrap32 a < 0 then b else 0) = u
    generalize (if wrap32 b < 0 then a else 0) = v
    rw [show (2 : Int) ^ 32 = 4294967296 from rfl]
    repeat' split
    all_goals omega
  · have p2 : wrap32 a * b = a * b - 4294967296 * (if wrap32 a < 0 then b else 0) := by
      rcases sgn a ha0 ha1 with ⟨e, _, n⟩ | ⟨e, _, n⟩
      · rw [if_neg n, e]; omega
      · rw [if_pos n, e, Int.sub_mul]
    have hne : wrap32 a * b ≤ 2147483647 * 4294967296 := by
      by_cases c : wrap32 a < 0
      · have := Int.mul_nonpos_of_nonpos_of_nonneg (a := wrap32 a) (b := b) (by omega) hb0
        omega
      · exact Int.mul_le_mul (by omega) (by omega) hb0 (by omega)
    rw [if_neg (by decide), if_neg (by decide), if_pos rfl, w64 _ b2.1 (by omega), show pintleref01_floor.f (wrap32 a * b) 32 = some (wrap32 a * b / 2 ^ 32) from floor_is _ 32 (by decide) b2.1 (by omega), obind, word_is, obind, moreR_13, p2]
    congr 2
    generalize a * b = P
    generalize (if wrap32 a < 0 then b else 0) = u
    rw [show (2 : Int) ^ 32 = 4294967296 from rfl]
    omega
  · rw [if_neg (by decide), if_neg (by decide), if_neg (by decide), if_pos rfl, moreR_14]
    simp only [NumPl.wrap_u64]
    rw [show a % 18446744073709551616 = a by omega, show b % 18446744073709551616 = b by omega]
    generalize a * b = P at hP0 hP1
    rw [tdiv_nonneg _ _ (by omega)]
    congr 2
    omega
  · rw [if_neg (by decide), if_neg (by decide), if_neg (by decide), if_neg (by decide), if_pos rfl, word_is, obind, moreR_15]
    congr 2
    by_cases c : wrap32 b = 0
    · rw [if_pos c, if_pos c]
    · rw [if_neg c, if_neg c]
      by_cases d : wrap32 a = -2147483648 ∧ wrap32 b = -1
      · rw [if_pos d]
        show wrap64 (Int.tdiv (wrap32 a) (wrap32 b)) % 4294967296 = _
        rw [d.1, d.2, w64_mod]; rfl
      · rw [if_neg d]
        show wrap64 (Int.tdiv (wrap32 a) (wrap32 b)) % 4294967296 = _
        generalize Int.tdiv (wrap32 a) (wrap32 b) = q
        unfold wrap64 wrap32; omega
  · rw [if_neg (by decide), if_neg (by decide), if_neg (by decide), if_neg (by decide), if_neg (by decide), if_pos rfl, word_is, obind, moreR_16]
    congr 2
    by_cases c : b = 0
    · rw [if_pos c, if_pos c]; rfl
    · rw [if_neg c, if_neg c]
      show wrap64 (Int.tdiv a b) % 4294967296 = _
      generalize Int.tdiv a b = q
      unfold wrap64; omega
  · rw [if_neg (by decide), if_neg (by decide), if_neg (by decide), if_neg (by decide), if_neg (by decide), if_neg (by decide), if_pos rfl, word_is, obind, moreR_17]
    congr 2
    by_cases c : wrap32 b = 0
    · rw [if_pos c, if_pos c]
    · rw [if_neg c, if_neg c]
      by_cases d : wrap32 a = -2147483648 ∧ wrap32 b = -1
      · rw [if_pos d]
        show Int.tmod (wrap32 a) (wrap32 b) % 4294967296 = _
        rw [d.1, d.2]; decide
      · rw [if_neg d]
  · rw [if_neg (by decide), if_neg (by decide), if_neg (by decide), if_neg (by decide), if_neg (by decide), if_neg (by decide), if_neg (by decide), if_pos rfl, word_is, obind, moreR_18]
    congr 2
    by_cases c : b = 0
    · rw [if_pos c, if_pos c]; show a % 4294967296 = a; omega
    · rw [if_neg c, if_neg c]
      show Int.tmod a b % 4294967296 = Int.tmod a b
      rw [tmod_nonneg a b ha0]
      have h2 := Int.emod_nonneg a c
      have h3 := Int.emod_lt_of_pos a (show 0 < b by omega)
      omega

theorem ref_alu_more (op a b : Int) (ha0 : 0 ≤ a) (ha1 : a < 4294967296) (hb0 : 0 ≤ b) (hb1 : b < 4294967296) (h0 : 11 ≤ op) (h1 : op ≤ 18) :
    pintleref01_Alu.f 4 op a b = some (moreR op a b, true) := by
  unfold pintleref01_Alu.f
  rw [signed_is a ha0 ha1, obind, signed_is b hb0 hb1, obind]
  rw [if_neg (by omega), if_neg (by omega), if_neg (by omega), if_neg (by omega), if_neg (by omega), if_neg (by omega), if_neg (by omega), if_neg (by omega), if_neg (by omega), if_neg (by omega)]
  rw [w64 a (by omega) (by omega), w64 b (by omega) (by omega), ref_more op a b ha0 ha1 hb0 hb1 h0 h1, obind]

theorem both_more (n op a b : Int) (hn : wrap64 (1 + wrap64 (Int.tmod n 18)) = op) (ha0 : 0 ≤ a) (ha1 : a < 4294967296) (hb0 : 0 ≤ b) (hb1 : b < 4294967296) (h0 : 11 ≤ op) (h1 : op ≤ 18) :
    pintlelaw01_alu.f 4 n a b = some true := by
  unfold pintlelaw01_alu.f
  rw [hn, alu_more op a b ha0 ha1 hb0 hb1 h0 h1, ref_alu_more op a b ha0 ha1 hb0 hb1 h0 h1, obind, obind, if_pos rfl, if_pos rfl]

theorem NumQuotients : pintlelaw01_NumQuotients.Pure := by
  intro n a b hn ha hb
  have h1 := wf_u32 ha
  have h2 := wf_u32 hb
  have h3 := wf_u8 hn
  refine ⟨4, ?_⟩
  unfold pintlelaw01_NumQuotients.f
  have e : wrap64 (1 + wrap64 (Int.tmod ((14 + Int.tmod n 4) % 256) 18)) = 15 + n % 4 := by
    rw [tmod_nonneg n 4 h3.1, tmod_nonneg _ _ (by omega)]
    unfold wrap64; omega
  rw [both_more _ _ a b e h1.1 h1.2 h2.1 h2.2 (by omega) (by omega), obind, if_pos rfl, lives_is, obind]

end Go.Proofs.Ytijacghgfalipaa.Pure
