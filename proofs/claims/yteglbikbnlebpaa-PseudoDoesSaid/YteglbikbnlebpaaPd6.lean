/- What Set and Add answer, and that each of it can be a word. -/
import Derived.Test.YteglbikbnlebpaaPsPintlelaw12Can
import Derived.Test.YteglbikbnlebpaaPd5
import Derived.Test.YteglbikbnlebpaaPd3
import Derived.Test.YteglbikbnlebpaaPsPintlelaw12Lives
import Derived.Test.YteglbikbnlebpaaPsPseudoAdd
namespace Go.Proofs.Yteglbikbnlebpaa.Pure
set_option linter.unusedVariables false
open Go.RowKit Pd Go.Proofs.Yteglbikbnlebpaa.PPs Go.Proofs.YteglbikbnlebpaaW.PrintWords Go.Proofs.YteglbikbnlebpaaW.PrintLast

theorem nat_high (a : Nat) (ha : a < 4294967296) : a &&& 4294963200 = 4096 * (a / 4096) := by
  have e : (4294963200 : Nat) = 2 ^ 12 * (2 ^ 20 - 1) := by decide
  have e2 : 4096 * (a / 4096) = 2 ^ 12 * (a / 2 ^ 12) := by rfl
  rw [e, e2]
  apply Nat.eq_of_testBit_eq
  intro i
  rw [Nat.testBit_and, Nat.testBit_two_pow_mul, Nat.testBit_two_pow_mul, Nat.testBit_two_pow_sub_one, Nat.testBit_div_two_pow]
  by_cases h : i ≥ 12
  · have e3 : i - 12 + 12 = i := by omega
    simp only [h, decide_true, Bool.true_and, e3]
    by_cases h2 : i - 12 < 20
    · simp [h2]
    · have : a.testBit i = false := Nat.testBit_lt_two_pow (Nat.lt_of_lt_of_le ha (by
        calc 4294967296 = 2 ^ 32 := by decide
          _ ≤ 2 ^ i := Nat.pow_le_pow_right (by decide) (by omega)))
      simp [this]
  · simp [h]

theorem i32_high (x : Int) (h0 : -2147483648 ≤ x) (h1 : x ≤ 2147483647) : Go.bits .and .i32 x (-4096) = x - x % 4096 := by
  have e : (BitVec.ofInt 32 (-4096 : Int)).toNat = 4294963200 := by decide
  have ex : ((BitVec.ofInt 32 x).toNat : Int) = x % 4294967296 := by
    rw [BitVec.toNat_ofInt]; simp; omega
  have hb : (BitVec.ofInt 32 x).toNat < 4294967296 := (BitVec.ofInt 32 x).isLt
  show IntKind.i32.wrap ((BitVec.ofInt 32 x &&& BitVec.ofInt 32 (-4096 : Int)).toNat : Int) = _
  rw [BitVec.toNat_and, e, nat_high _ hb, IntKind.wrap_i32]
  omega

theorem same_refl (l : List S38) (hn : l.length ≤ 1000000) (d : Nat) : ∀ (k : Nat) (i : Int), 0 ≤ i → i ≤ l.length → (l.length : Int) - i = d → d < k → pintleref12_Same.l0 k l l i = some true := by
  induction d with
  | zero =>
    intro k i h0 h1 hd hk
    obtain ⟨k, rfl⟩ : ∃ m, k = m + 1 := ⟨k - 1, by omega⟩
    simp only [pintleref12_Same.l0]; rw [if_neg (by omega)]
  | succ d ih =>
    intro k i h0 h1 hd hk
    obtain ⟨k, rfl⟩ : ∃ m, k = m + 1 := ⟨k - 1, by omega⟩
    have hw : wrap64 (i + 1) = i + 1 := by unfold wrap64; omega
    simp only [pintleref12_Same.l0]; rw [if_pos (by omega), if_pos h0, if_pos (by omega)]
    rw [if_neg (by simp), hw]
    exact ih k (i + 1) (by omega) (by omega) (by omega) (by omega)

theorem same_self (l : List S38) (hn : l.length ≤ 2) : pintleref12_Same.f 5 l l = some true := by
  unfold pintleref12_Same.f
  rw [if_pos rfl]
  exact same_refl l (by omega) l.length 5 0 (by omega) (by omega) (by omega) (by omega)

/-- The list that both come to. -/
def setL (rd n : Int) : List S38 :=
  if rd < 1 ∨ 31 < rd then []
  else if -2048 ≤ n ∧ n ≤ 2047 then [⟨19, rd, 0, 0, n⟩]
  else if (n + 2048) % 4096 - 2048 = 0 then [⟨42, rd, 0, 0, wrap32 (n - ((n + 2048) % 4096 - 2048))⟩]
  else [⟨42, rd, 0, 0, wrap32 (n - ((n + 2048) % 4096 - 2048))⟩, ⟨19, rd, rd, 0, (n + 2048) % 4096 - 2048⟩]

theorem setL_length (rd n : Int) : (setL rd n).length ≤ 2 := by
  unfold setL; repeat' split
  all_goals simp

theorem set_is (rd n : Int) (h0 : -2147483648 ≤ n) (h1 : n ≤ 2147483647) : pseudo_Set.f 5 rd n = some (setL rd n) := by
  have hb := i32_high (wrap32 (n + 2048)) (by unfold wrap32; omega) (by unfold wrap32; omega)
  have hlow : wrap32 (n - Go.bits .and .i32 (wrap32 (n + 2048)) (-4096)) = (n + 2048) % 4096 - 2048 := by
    rw [hb]; unfold wrap32; omega
  have hhigh : Go.bits .and .i32 (wrap32 (n + 2048)) (-4096) = wrap32 (n - ((n + 2048) % 4096 - 2048)) := by
    rw [hb]; unfold wrap32; omega
  unfold pseudo_Set.f pseudo_set.f pseudo_reg.f setL
  simp only [pseudo_set.j0, pseudo_short.f]
  rw [hlow, hhigh]
  by_cases a : rd ≥ 0
  · rw [if_pos a]; simp only [Option.bind_some]
    by_cases b : rd < 32
    · simp only [b, decide_true, if_true]
      by_cases c : rd = 0
      · subst c; simp
      · have c' : (rd == 0) = false := by simpa using c
        rw [if_neg (show ¬ (rd < 1 ∨ 31 < rd) by omega)]
        simp only [c']
        by_cases d : n ≥ -2048
        · simp only [d, if_true, Option.bind_some]
          by_cases e : n ≤ 2047
          · simp [e]
          · simp [e]; split <;> simp_all
        · simp [d]; split <;> simp_all
    · rw [if_pos (show (rd < 1 ∨ 31 < rd) by omega)]
      simp [b]
  · rw [if_neg a, if_pos (show (rd < 1 ∨ 31 < rd) by omega)]
    simp

theorem wf_i32 {n : Int} (h : (Lit.int .i32 n).wf = true) : -2147483648 ≤ n ∧ n ≤ 2147483647 := by
  simp only [Lit.wf, Bool.and_eq_true, decide_eq_true_eq] at h
  have e1 : IntKind.i32.min = -2147483648 := by decide
  have e2 : IntKind.i32.max = 2147483647 := by decide
  rw [e1, e2] at h
  exact h

theorem lives_is (k : Nat) (hk : 5 ≤ k) : pintlelaw12_lives.f k = some true := by
  refine at_rounds (g := fun k => pintlelaw12_lives.f k) (fun k => pintlelaw12_lives.mono k) hk ?_
  have e : setL 5 2048 = [⟨42, 5, 0, 0, 4096⟩, ⟨19, 5, 5, 0, -2048⟩] := by
    simp [setL]; unfold wrap32; omega
  show pintlelaw12_lives.f 5 = some true
  unfold pintlelaw12_lives.f
  rw [set_is 5 2048 (by omega) (by omega), e]
  simp only [Option.bind_some]
  rw [same_self _ (by simp)]
  rfl

def addL (rd rs n by_ : Int) : List S38 :=
  if (rd < 1 ∨ 31 < rd ∨ rs < 0 ∨ 31 < rs ∨ by_ < 1 ∨ 31 < by_ ∨ by_ = rs) ∨ (n = 0 ∧ rd = rs) then []
  else if -2048 ≤ n ∧ n ≤ 2047 then [⟨19, rd, rs, 0, n⟩]
  else setL by_ n ++ [⟨1, rd, rs, by_, 0⟩]

theorem addL_length (rd rs n by_ : Int) : (addL rd rs n by_).length ≤ 3 := by
  have h := setL_length by_ n
  unfold addL; repeat' split
  all_goals simp
  omega

theorem set0_is (rd n : Int) (h0 : -2147483648 ≤ n) (h1 : n ≤ 2147483647) : pseudo_set.f 5 rd n = some (setL rd n) := by
  have h := set_is rd n h0 h1
  unfold pseudo_Set.f at h
  cases hs : pseudo_set.f 5 rd n with
  | none => rw [hs] at h; cases h
  | some x => rw [hs, obind] at h; exact h

theorem short_is (n : Int) : pseudo_short.f n = some (decide (-2048 ≤ n ∧ n ≤ 2047)) := by
  unfold pseudo_short.f
  by_cases a : n ≥ -2048
  · rw [if_pos a]; simp [a]
  · rw [if_neg a, decide_eq_false (by omega)]

theorem reg_is (n : Int) : pseudo_reg.f n = some (decide (0 ≤ n ∧ n < 32)) := by
  unfold pseudo_reg.f
  by_cases a : n ≥ 0
  · rw [if_pos a]; simp [a]
  · rw [if_neg a, decide_eq_false (by omega)]

theorem j1_add (rd rs n by_ : Int) (b : Bool) (h0 : -2147483648 ≤ n) (h1 : n ≤ 2147483647) :
    pseudo_Add.j1 6 rd rs n by_ b = some (if b = true then [] else if -2048 ≤ n ∧ n ≤ 2047 then [⟨19, rd, rs, 0, n⟩] else setL by_ n ++ [⟨1, rd, rs, by_, 0⟩]) := by
  have hl := setL_length by_ n
  simp only [pseudo_Add.j1]
  by_cases c : b = true
  · rw [if_pos c, if_pos c]
  · rw [if_neg c, if_neg c, short_is, obind]
    by_cases d : -2048 ≤ n ∧ n ≤ 2047
    · rw [if_pos (decide_eq_true d), if_pos d]
    · rw [if_neg (by rw [decide_eq_false d]; decide), if_neg d, set0_is by_ n h0 h1, obind, if_pos (by omega)]

theorem add_is (rd rs n by_ : Int) (h0 : -2147483648 ≤ n) (h1 : n ≤ 2147483647) : pseudo_Add.f 7 rd rs n by_ = some (addL rd rs n by_) := by
  have bad : (rd < 1 ∨ 31 < rd ∨ rs < 0 ∨ 31 < rs ∨ by_ < 1 ∨ 31 < by_ ∨ by_ = rs) → pseudo_Add.j0 7 rd rs n by_ true = some (addL rd rs n by_) := by
    intro h
    unfold addL
    rw [if_pos (.inl h)]
    simp only [pseudo_Add.j0]
    rw [if_pos trivial]
  unfold pseudo_Add.f
  rw [reg_is rd, obind]
  by_cases a : 0 ≤ rd ∧ rd < 32
  · rw [if_pos (decide_eq_true a)]
    by_cases b : rd = 0
    · rw [if_pos b]; exact bad (by omega)
    · rw [if_neg b, reg_is rs, obind]
      by_cases c : 0 ≤ rs ∧ rs < 32
      · rw [if_pos (decide_eq_true c), reg_is by_, obind]
        by_cases d : 0 ≤ by_ ∧ by_ < 32
        · rw [if_pos (decide_eq_true d)]
          by_cases e : by_ = 0
          · rw [if_pos e]; exact bad (by omega)
          · rw [if_neg e]
            by_cases f : by_ = rs
            · rw [beq_iff_eq.mpr f]; exact bad (by omega)
            · rw [beq_eq_false_iff_ne.mpr f]
              simp only [pseudo_Add.j0]
              rw [if_neg (by decide)]
              unfold addL
              by_cases g : n = 0
              · rw [if_pos g, j1_add rd rs n by_ _ h0 h1]
                by_cases i : rd = rs
                · rw [if_pos (beq_iff_eq.mpr i), if_pos (.inr ⟨g, i⟩)]
                · rw [if_neg (by rw [beq_eq_false_iff_ne.mpr i]; decide), if_neg (show ¬ ((rd < 1 ∨ 31 < rd ∨ rs < 0 ∨ 31 < rs ∨ by_ < 1 ∨ 31 < by_ ∨ by_ = rs) ∨ (n = 0 ∧ rd = rs)) by omega)]
              · rw [if_neg g, j1_add rd rs n by_ _ h0 h1, if_neg (by decide), if_neg (show ¬ ((rd < 1 ∨ 31 < rd ∨ rs < 0 ∨ 31 < rs ∨ by_ < 1 ∨ 31 < by_ ∨ by_ = rs) ∨ (n = 0 ∧ rd = rs)) by omega)]
        · rw [if_neg (by rw [decide_eq_false d]; decide)]; exact bad (by omega)
      · rw [if_neg (by rw [decide_eq_false c]; decide)]; exact bad (by omega)
  · rw [if_neg (by rw [decide_eq_false a]; decide)]; exact bad (by omega)

end Go.Proofs.Yteglbikbnlebpaa.Pure
