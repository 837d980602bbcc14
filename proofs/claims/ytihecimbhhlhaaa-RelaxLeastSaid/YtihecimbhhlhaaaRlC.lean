/- What Set answers, the program's and the document's. -/
import Derived.Test.YtihecimbhhlhaaaRsPseudoSet
import Derived.Test.YtihecimbhhlhaaaRlB
import Derived.Test.YtihecimbhhlhaaaRsPintleref12Set
namespace Go.Proofs.Ytihecimbhhlhaaa.Pure
set_option linter.unusedVariables false
open Go.RowKit Go.Proofs.Ytihecimbhhlhaaa.PRs Go.Proofs.YtihecimbhhlhaaaW.PrintWords Go.Proofs.YtihecimbhhlhaaaW.PrintLast

theorem nat_high (a : Nat) (ha : a < 4294967296) : a &&& 4294963200 = 4096 * (a / 4096) := by
  have e : (4294963200 : Nat) = 2 ^ 12 * (2 ^ 20 - 1) := by decide
  have e2 : 4096 * (a / 4096) = 2 ^ 12 * (a / 2 ^ 12) := by rfl
  rw [e, e2]
  apply Nat.eq_of_testBit_eq
  intro i
  rw [Nat.testBit_and, Nat.testBit_two_pow_mul, Nat.testBit_two_pow_mul, Nat.testBit_two_pow_sub_one, Nat.testBit_div_two_pow]
  by_cases h : i ≥ 12
  · have e3 : i - 12 + 12 = i := by omega
    simp only [h, decide_true, Bool.true_and, e3]
    by_cases h2 : i - 12 < 20
    · simp [h2]
    · have : a.testBit i = false := Nat.testBit_lt_two_pow (Nat.lt_of_lt_of_le ha (by
        calc 4294967296 = 2 ^ 32 := by decide
          _ ≤ 2 ^ i := Nat.pow_le_pow_right (by decide) (by omega)))
      simp [this]
  · simp [h]

theorem i32_high (x : Int) (h0 : -2147483648 ≤ x) (h1 : x ≤ 2147483647) : Go.bits .and .i32 x (-4096) = x - x % 4096 := by
  have e : (BitVec.ofInt 32 (-4096 : Int)).toNat = 4294963200 := by decide
  have ex : ((BitVec.ofInt 32 x).toNat : Int) = x % 4294967296 := by
    rw [BitVec.toNat_ofInt]; simp; omega
  have hb : (BitVec.ofInt 32 x).toNat < 4294967296 := (BitVec.ofInt 32 x).isLt
  show IntKind.i32.wrap ((BitVec.ofInt 32 x &&& BitVec.ofInt 32 (-4096 : Int)).toNat : Int) = _
  rw [BitVec.toNat_and, e, nat_high _ hb, IntKind.wrap_i32]
  omega

/-- The list that both come to. -/
def setL (rd n : Int) : List S32 :=
  if rd < 1 ∨ 31 < rd then []
  else if -2048 ≤ n ∧ n ≤ 2047 then [⟨19, rd, 0, 0, n⟩]
  else if (n + 2048) % 4096 - 2048 = 0 then [⟨42, rd, 0, 0, wrap32 (n - ((n + 2048) % 4096 - 2048))⟩]
  else [⟨42, rd, 0, 0, wrap32 (n - ((n + 2048) % 4096 - 2048))⟩, ⟨19, rd, rd, 0, (n + 2048) % 4096 - 2048⟩]

theorem setL_length (rd n : Int) : (setL rd n).length ≤ 2 := by
  unfold setL; repeat' split
  all_goals simp

theorem set_is (rd n : Int) (h0 : -2147483648 ≤ n) (h1 : n ≤ 2147483647) : pseudo_Set.f 5 rd n = some (setL rd n) := by
  have hb := i32_high (wrap32 (n + 2048)) (by unfold wrap32; omega) (by unfold wrap32; omega)
  have hlow : wrap32 (n - Go.bits .and .i32 (wrap32 (n + 2048)) (-4096)) = (n + 2048) % 4096 - 2048 := by
    rw [hb]; unfold wrap32; omega
  have hhigh : Go.bits .and .i32 (wrap32 (n + 2048)) (-4096) = wrap32 (n - ((n + 2048) % 4096 - 2048)) := by
    rw [hb]; unfold wrap32; omega
  unfold pseudo_Set.f pseudo_set.f pseudo_reg.f setL
  simp only [pseudo_set.j0, pseudo_short.f]
  rw [hlow, hhigh]
  by_cases a : rd ≥ 0
  · rw [if_pos a]; simp only [Option.bind_some]
    by_cases b : rd < 32
    · simp only [b, decide_true, if_true]
      by_cases c : rd = 0
      · subst c; simp
      · have c' : (rd == 0) = false := by simpa using c
        rw [if_neg (show ¬ (rd < 1 ∨ 31 < rd) by omega)]
        simp only [c']
        by_cases d : n ≥ -2048
        · simp only [d, if_true, Option.bind_some]
          by_cases e : n ≤ 2047
          · simp [e]
          · simp [e]; split <;> simp_all
        · simp [d]; split <;> simp_all
    · rw [if_pos (show (rd < 1 ∨ 31 < rd) by omega)]
      simp [b]
  · rw [if_neg a, if_pos (show (rd < 1 ∨ 31 < rd) by omega)]
    simp

def longL (rd n : Int) : List S32 :=
  if (n + 2048) % 4096 - 2048 = 0 then [⟨42, rd, 0, 0, wrap32 (n - ((n + 2048) % 4096 - 2048))⟩]
  else [⟨42, rd, 0, 0, wrap32 (n - ((n + 2048) % 4096 - 2048))⟩, ⟨19, rd, rd, 0, (n + 2048) % 4096 - 2048⟩]

theorem j2_is (k : Nat) (rd n lo : Int) (h0 : -2147483648 ≤ n) (h1 : n ≤ 2147483647) (e : lo = (n + 2048) % 4096 - 2048) :
    pintleref12_Set.j2 (k + 1) rd n lo = some (longL rd n) := by
  have w1 : wrap64 n = n := by unfold wrap64; omega
  have w2 : wrap64 (n - lo) = n - lo := by unfold wrap64; omega
  have w3 : wrap32 lo = lo := by unfold wrap32; omega
  simp only [pintleref12_Set.j2, w1, w2, w3]
  unfold longL
  rw [← e]
  have w4 : n - lo = 2147483648 → wrap32 (n - lo) = -2147483648 := fun h => by rw [h]; unfold wrap32; omega
  by_cases a : n - lo = 2147483648
  · rw [if_pos a, w4 a]
    by_cases b : lo = 0
    · simp [b]
    · simp [b]
  · rw [if_neg a]
    by_cases b : lo = 0
    · simp [b]
    · simp [b]

theorem j1_is (k : Nat) (rd n t : Int) (h0 : -2147483648 ≤ n) (h1 : n ≤ 2147483647) (e : t = (n + 2048) % 4096 - 2048 ∨ t = (n + 2048) % 4096 - 2048 - 4096) :
    pintleref12_Set.j1 (k + 2) rd n t = some (longL rd n) := by
  have w2 : wrap64 (t + 4096) = t + 4096 := by unfold wrap64; omega
  simp only [pintleref12_Set.j1, w2]
  by_cases a : t < -2048
  · rw [if_pos a]; exact j2_is k rd n _ h0 h1 (by omega)
  · rw [if_neg a]; exact j2_is k rd n _ h0 h1 (by omega)

theorem ref_is (rd n : Int) (h0 : -2147483648 ≤ n) (h1 : n ≤ 2147483647) : pintleref12_Set.f 5 rd n = some (setL rd n) := by
  have w1 : wrap64 n = n := by unfold wrap64; omega
  have ht : (0 ≤ n ∧ Int.tmod n 4096 = n % 4096) ∨ (n < 0 ∧ Int.tmod n 4096 = -((-n) % 4096)) := by
    by_cases h : 0 ≤ n
    · exact .inl ⟨h, Int.tmod_eq_emod_of_nonneg h⟩
    · refine .inr ⟨by omega, ?_⟩
      have := Int.neg_tmod (-n) 4096
      rw [Int.neg_neg] at this
      rw [this, Int.tmod_eq_emod_of_nonneg (by omega)]
  have w5 : wrap64 (Int.tmod n 4096 - 4096) = Int.tmod n 4096 - 4096 := by unfold wrap64; omega
  have j0b : ∀ b : Bool, b = decide (rd < 1 ∨ 31 < rd) → pintleref12_Set.j0 5 rd n b = some (setL rd n) := by
    intro b hb
    unfold setL
    by_cases a : rd < 1 ∨ 31 < rd
    · rw [if_pos a]
      have : b = true := by simp [hb, a]
      subst this
      simp [pintleref12_Set.j0]
    · rw [if_neg a]
      have : b = false := by simp [hb, a]
      subst this
      simp only [pintleref12_Set.j0, w1, w5]
      rw [if_neg (by simp)]
      unfold pintleref12_short.f
      have hl : (if Int.tmod n 4096 > 2047 then pintleref12_Set.j1 4 rd n (Int.tmod n 4096 - 4096) else pintleref12_Set.j1 4 rd n (Int.tmod n 4096)) = some (longL rd n) := by
        split
        · exact j1_is 2 rd n _ h0 h1 (by omega)
        · exact j1_is 2 rd n _ h0 h1 (by omega)
      by_cases c : n ≥ -2048
      · rw [if_pos c]; simp only [Option.bind_some]
        by_cases d : n ≤ 2047
        · simp only [d, decide_true, if_true]; rw [if_pos (show -2048 ≤ n ∧ True from ⟨c, trivial⟩)]
        · rw [if_neg (show ¬ (-2048 ≤ n ∧ n ≤ 2047) by omega)]
          simp only [d, decide_false]
          rw [if_neg (by simp), hl]; rfl
      · rw [if_neg c, if_neg (show ¬ (-2048 ≤ n ∧ n ≤ 2047) by omega)]; simp only [Option.bind_some]
        rw [if_neg (by simp), hl]; rfl
  unfold pintleref12_Set.f
  split
  · exact j0b true (by simp [*])
  · exact j0b _ (by simp [*])

theorem wf_i32 {n : Int} (h : (Lit.int .i32 n).wf = true) : -2147483648 ≤ n ∧ n ≤ 2147483647 := by
  simp only [Lit.wf, Bool.and_eq_true, decide_eq_true_eq] at h
  have e1 : IntKind.i32.min = -2147483648 := by decide
  have e2 : IntKind.i32.max = 2147483647 := by decide
  rw [e1, e2] at h
  exact h

theorem set0_is (rd n : Int) (h0 : -2147483648 ≤ n) (h1 : n ≤ 2147483647) : pseudo_set.f 5 rd n = some (setL rd n) := by
  have h := set_is rd n h0 h1
  unfold pseudo_Set.f at h
  cases hs : pseudo_set.f 5 rd n with
  | none => rw [hs] at h; cases h
  | some x => rw [hs, obind] at h; exact h

theorem short_is (n : Int) : pseudo_short.f n = some (decide (-2048 ≤ n ∧ n ≤ 2047)) := by
  unfold pseudo_short.f
  by_cases a : n ≥ -2048
  · rw [if_pos a]; simp [a]
  · rw [if_neg a, decide_eq_false (by omega)]

theorem rshort_is (n : Int) : pintleref12_short.f n = some (decide (-2048 ≤ n ∧ n ≤ 2047)) := by
  unfold pintleref12_short.f
  by_cases a : n ≥ -2048
  · rw [if_pos a]; simp [a]
  · rw [if_neg a, decide_eq_false (by omega)]

theorem reg_is (n : Int) : pseudo_reg.f n = some (decide (0 ≤ n ∧ n < 32)) := by
  unfold pseudo_reg.f
  by_cases a : n ≥ 0
  · rw [if_pos a]; simp [a]
  · rw [if_neg a, decide_eq_false (by omega)]

end Go.Proofs.Ytihecimbhhlhaaa.Pure
