/- Window: within, corner. -/
import Derived.Test.YtfcimgdogkpbcaaW14
import Derived.Test.YtfcimgdogkpbcaaF3
namespace Go.Proofs.Ytfcimgdogkpbcaa.W
open Go.RowKit T1 F Dr
set_option linter.unusedVariables false
set_option linter.unusedSimpArgs false
set_option maxRecDepth 100000

abbrev fl (a : Int) : Value := .float .f64 (F a)
/-- An int64, or near to it. -/
abbrev Wd (n : Int) : Prop := n.natAbs < 2 ^ 64
theorem Sm.wd {n : Int} (h : Sm n) : Wd n := Nat.lt_trans h.lt (by decide)
theorem Sm.s52 {n : Int} (h : Sm n) : n.natAbs < 2 ^ 52 := by
  have : n.natAbs ≤ 1000000 := by have := h.1; have := h.2; omega
  exact Nat.lt_of_le_of_lt this (by decide)
theorem b_fge {x y : Operand} {a : Int} {W : World} (h : Wd a) : (do eqGuard .geq 63 x y (fl a) (.float .f64 0); binOp .geq 63 (fl a) (.float .f64 0) : Sem Value).run Try.prog W = .ok (.bool (decide (0 ≤ a))) W := by
  have e := order_any a 0 h (by decide)
  rw [F0] at e
  have e' : FloatKind.f64.format.order (F a) 0 = some (compare a 0) := e
  have e2 : (some (compare a 0) == some Ordering.gt || some (compare a 0) == some Ordering.eq) = decide (0 ≤ a) := by
    rcases Int.lt_trichotomy a 0 with hx | hx | hx
    · rw [Int.compare_eq_lt.2 hx, decide_eq_false (show ¬ 0 ≤ a by omega)]; rfl
    · rw [Int.compare_eq_eq.2 hx, decide_eq_true (show 0 ≤ a by omega)]; rfl
    · rw [Int.compare_eq_gt.2 hx, decide_eq_true (show 0 ≤ a by omega)]; rfl
  rw [← e2, ← e']
  simp [eqGuard, binOp, Op.floatCmp]
theorem b_flt {x y : Operand} {a c : Int} {W : World} (h : Wd a) (hc : Sm c) : (do eqGuard .lss 63 x y (fl a) (fl c); binOp .lss 63 (fl a) (fl c) : Sem Value).run Try.prog W = .ok (.bool (decide (a < c))) W := by
  have e := order_any a c h hc.s52
  have e' : FloatKind.f64.format.order (F a) (F c) = some (compare a c) := e
  have e2 : (some (compare a c) == some Ordering.lt) = decide (a < c) := by
    rcases Int.lt_trichotomy a c with hx | hx | hx
    · rw [Int.compare_eq_lt.2 hx, decide_eq_true hx]; rfl
    · rw [Int.compare_eq_eq.2 hx, decide_eq_false (show ¬ a < c by omega)]; rfl
    · rw [Int.compare_eq_gt.2 hx, decide_eq_false (show ¬ a < c by omega)]; rfl
  rw [← e2, ← e']
  simp [eqGuard, binOp, Op.floatCmp]
theorem b_fmul {x y : Operand} {a c r : Int} {W : World} (ha : 0 ≤ a ∧ a ≤ 1000) (hc : 0 ≤ c ∧ c ≤ 1000) (hr : a * c = r) : (do eqGuard .mul 63 x y (fl a) (fl c); binOp .mul 63 (fl a) (fl c) : Sem Value).run Try.prog W = .ok (fl r) W := by
  subst hr
  have hp := prodb (a := a) (b := c) (c := 1000) (d := 1000) ha hc
  have e : floatBits .mul .f64 (F a) (F c) = some (F (a * c)) := mul_F a c ha.1 hc.1 (Sm.lt ⟨by omega, by omega⟩) (Sm.lt ⟨by omega, by omega⟩) (Sm.lt ⟨by omega, by omega⟩)
  have e2 := run_float_arith (P := Try.prog) W .mul 63 .f64 (F a) (F c) _ e
  simp [eqGuard, e2]
/-- What within answers. -/
def wiB (a b c d : Int) : Bool := decide (0 ≤ a) && decide (0 ≤ b) && decide (a < c) && decide (b < d)
set_option maxHeartbeats 1000000 in
theorem within_is (qa qb qc qd : Int) (w : World) (h_a : Wd qa) (h_b : Wd qb) (h_c : Sm qc) (h_d : Sm qd) : Calls Try.prog 32 #[pl qa qb, pl qc qd] w fun e w' => e = .returned (.bool (wiB qa qb qc qd)) ∧ w' = w := by
  go_enter Try.func32, Try.ntmps32
  apply wp_seq_k
  intro K1 hK1
  have HK1 := Lib.hid hK1
  clear hK1
  go_wp2
  refine HK1.out _ _ ?_
  clear HK1
  apply wp_seq_k
  intro K2 hK2
  have HK2 := Lib.hid hK2
  clear hK2
  refine wp_listed (R := fun W W' => W' = W) 23 [.val (pl qa qb), .val (fl qa), .val (.bool (decide (0 ≤ qa))), .val (.bool (decide (0 ≤ qa))), .val ((bif ((decide (0 ≤ qa)) == true) then (pl qa qb) else undef)), .val ((bif ((decide (0 ≤ qa)) == true) then (fl qb) else undef)), .val ((bif ((decide (0 ≤ qa)) == true) then (.bool (decide (0 ≤ qb))) else undef)), .val (.bool ((decide (0 ≤ qa)) && (decide (0 ≤ qb)))), .val (.bool ((decide (0 ≤ qa)) && (decide (0 ≤ qb)))), .val ((bif (((decide (0 ≤ qa)) && (decide (0 ≤ qb))) == true) then (pl qa qb) else undef)), .val ((bif (((decide (0 ≤ qa)) && (decide (0 ≤ qb))) == true) then (fl qa) else undef)), .val ((bif (((decide (0 ≤ qa)) && (decide (0 ≤ qb))) == true) then (pl qc qd) else undef)), .val ((bif (((decide (0 ≤ qa)) && (decide (0 ≤ qb))) == true) then (fl qc) else undef)), .val ((bif (((decide (0 ≤ qa)) && (decide (0 ≤ qb))) == true) then (.bool (decide (qa < qc))) else undef)), .val (.bool (((decide (0 ≤ qa)) && (decide (0 ≤ qb))) && (decide (qa < qc)))), .val (.bool (((decide (0 ≤ qa)) && (decide (0 ≤ qb))) && (decide (qa < qc)))), .val ((bif ((((decide (0 ≤ qa)) && (decide (0 ≤ qb))) && (decide (qa < qc))) == true) then (pl qa qb) else undef)), .val ((bif ((((decide (0 ≤ qa)) && (decide (0 ≤ qb))) && (decide (qa < qc))) == true) then (fl qb) else undef)), .val ((bif ((((decide (0 ≤ qa)) && (decide (0 ≤ qb))) && (decide (qa < qc))) == true) then (pl qc qd) else undef)), .val ((bif ((((decide (0 ≤ qa)) && (decide (0 ≤ qb))) && (decide (qa < qc))) == true) then (fl qd) else undef)), .val ((bif ((((decide (0 ≤ qa)) && (decide (0 ≤ qb))) && (decide (qa < qc))) == true) then (.bool (decide (qb < qd))) else undef)), .val (.bool (wiB qa qb qc qd)), .val (.bool (wiB qa qb qc qd))] (fun W => W = w) (by kernel_rfl) rfl ?_ ?_
  · intro vs W hG b hb
    have e0 : b.eval (.tmp 0) = pl qa qb := (congrArg (fun x => Act.eval x (.tmp 0)) hb).trans ((fill_out _ 0 _ (by kernel_rfl)).trans rfl)
    have e1 : b.eval (.tmp 1) = pl qc qd := (congrArg (fun x => Act.eval x (.tmp 1)) hb).trans ((fill_out _ 0 _ (by kernel_rfl)).trans rfl)
    have i5 : b.eval (.tmp 5) = vs 0 := (congrArg (fun x => Act.eval x (.tmp 5)) hb).trans ((fill_in _ 0 0 _ _ 5 (by kernel_rfl) rfl rfl (by simp)).trans (congrArg vs (Nat.zero_add _)))
    have i6 : b.eval (.tmp 6) = vs 1 := (congrArg (fun x => Act.eval x (.tmp 6)) hb).trans ((fill_in _ 0 1 _ _ 6 (by kernel_rfl) rfl rfl (by simp)).trans (congrArg vs (Nat.zero_add _)))
    have i7 : b.eval (.tmp 7) = vs 2 := (congrArg (fun x => Act.eval x (.tmp 7)) hb).trans ((fill_in _ 0 2 _ _ 7 (by kernel_rfl) rfl rfl (by simp)).trans (congrArg vs (Nat.zero_add _)))
    have i8 : b.eval (.tmp 8) = vs 3 := (congrArg (fun x => Act.eval x (.tmp 8)) hb).trans ((fill_in _ 0 3 _ _ 8 (by kernel_rfl) rfl rfl (by simp)).trans (congrArg vs (Nat.zero_add _)))
    have i9 : b.eval (.tmp 9) = vs 4 := (congrArg (fun x => Act.eval x (.tmp 9)) hb).trans ((fill_in _ 0 4 _ _ 9 (by kernel_rfl) rfl rfl (by simp)).trans (congrArg vs (Nat.zero_add _)))
    have i10 : b.eval (.tmp 10) = vs 5 := (congrArg (fun x => Act.eval x (.tmp 10)) hb).trans ((fill_in _ 0 5 _ _ 10 (by kernel_rfl) rfl rfl (by simp)).trans (congrArg vs (Nat.zero_add _)))
    have i11 : b.eval (.tmp 11) = vs 6 := (congrArg (fun x => Act.eval x (.tmp 11)) hb).trans ((fill_in _ 0 6 _ _ 11 (by kernel_rfl) rfl rfl (by simp)).trans (congrArg vs (Nat.zero_add _)))
    have i12 : b.eval (.tmp 12) = vs 7 := (congrArg (fun x => Act.eval x (.tmp 12)) hb).trans ((fill_in _ 0 7 _ _ 12 (by kernel_rfl) rfl rfl (by simp)).trans (congrArg vs (Nat.zero_add _)))
    have i13 : b.eval (.tmp 13) = vs 8 := (congrArg (fun x => Act.eval x (.tmp 13)) hb).trans ((fill_in _ 0 8 _ _ 13 (by kernel_rfl) rfl rfl (by simp)).trans (congrArg vs (Nat.zero_add _)))
    have i14 : b.eval (.tmp 14) = vs 9 := (congrArg (fun x => Act.eval x (.tmp 14)) hb).trans ((fill_in _ 0 9 _ _ 14 (by kernel_rfl) rfl rfl (by simp)).trans (congrArg vs (Nat.zero_add _)))
    have i15 : b.eval (.tmp 15) = vs 10 := (congrArg (fun x => Act.eval x (.tmp 15)) hb).trans ((fill_in _ 0 10 _ _ 15 (by kernel_rfl) rfl rfl (by simp)).trans (congrArg vs (Nat.zero_add _)))
    have i16 : b.eval (.tmp 16) = vs 11 := (congrArg (fun x => Act.eval x (.tmp 16)) hb).trans ((fill_in _ 0 11 _ _ 16 (by kernel_rfl) rfl rfl (by simp)).trans (congrArg vs (Nat.zero_add _)))
    have i17 : b.eval (.tmp 17) = vs 12 := (congrArg (fun x => Act.eval x (.tmp 17)) hb).trans ((fill_in _ 0 12 _ _ 17 (by kernel_rfl) rfl rfl (by simp)).trans (congrArg vs (Nat.zero_add _)))
    have i18 : b.eval (.tmp 18) = vs 13 := (congrArg (fun x => Act.eval x (.tmp 18)) hb).trans ((fill_in _ 0 13 _ _ 18 (by kernel_rfl) rfl rfl (by simp)).trans (congrArg vs (Nat.zero_add _)))
    have i19 : b.eval (.tmp 19) = vs 14 := (congrArg (fun x => Act.eval x (.tmp 19)) hb).trans ((fill_in _ 0 14 _ _ 19 (by kernel_rfl) rfl rfl (by simp)).trans (congrArg vs (Nat.zero_add _)))
    have i20 : b.eval (.tmp 20) = vs 15 := (congrArg (fun x => Act.eval x (.tmp 20)) hb).trans ((fill_in _ 0 15 _ _ 20 (by kernel_rfl) rfl rfl (by simp)).trans (congrArg vs (Nat.zero_add _)))
    have i21 : b.eval (.tmp 21) = vs 16 := (congrArg (fun x => Act.eval x (.tmp 21)) hb).trans ((fill_in _ 0 16 _ _ 21 (by kernel_rfl) rfl rfl (by simp)).trans (congrArg vs (Nat.zero_add _)))
    have i22 : b.eval (.tmp 22) = vs 17 := (congrArg (fun x => Act.eval x (.tmp 22)) hb).trans ((fill_in _ 0 17 _ _ 22 (by kernel_rfl) rfl rfl (by simp)).trans (congrArg vs (Nat.zero_add _)))
    have i23 : b.eval (.tmp 23) = vs 18 := (congrArg (fun x => Act.eval x (.tmp 23)) hb).trans ((fill_in _ 0 18 _ _ 23 (by kernel_rfl) rfl rfl (by simp)).trans (congrArg vs (Nat.zero_add _)))
    have i24 : b.eval (.tmp 24) = vs 19 := (congrArg (fun x => Act.eval x (.tmp 24)) hb).trans ((fill_in _ 0 19 _ _ 24 (by kernel_rfl) rfl rfl (by simp)).trans (congrArg vs (Nat.zero_add _)))
    have i25 : b.eval (.tmp 25) = vs 20 := (congrArg (fun x => Act.eval x (.tmp 25)) hb).trans ((fill_in _ 0 20 _ _ 25 (by kernel_rfl) rfl rfl (by simp)).trans (congrArg vs (Nat.zero_add _)))
    have i26 : b.eval (.tmp 26) = vs 21 := (congrArg (fun x => Act.eval x (.tmp 26)) hb).trans ((fill_in _ 0 21 _ _ 26 (by kernel_rfl) rfl rfl (by simp)).trans (congrArg vs (Nat.zero_add _)))
    clear hb
    refine And.intro ?_ (And.intro ?_ (And.intro ?_ (And.intro ?_ (And.intro ?_ (And.intro ?_ (And.intro ?_ (And.intro ?_ (And.intro ?_ (And.intro ?_ (And.intro ?_ (And.intro ?_ (And.intro ?_ (And.intro ?_ (And.intro ?_ (And.intro ?_ (And.intro ?_ (And.intro ?_ (And.intro ?_ (And.intro ?_ (And.intro ?_ (And.intro ?_ (And.intro ?_ (trivial)))))))))))))))))))))))
    · intro hp K hK
      refine g_no rfl ?_
      exact st_move (.inl rfl) (e0) (hK _ _ rfl hG rfl)
    · intro hp K hK
      refine g_no rfl ?_
      have e5 : b.eval (.tmp 5) = pl qa qb := i5.trans (hp 0 (by kernel_rfl))
      exact st_builtin rfl (by first | (simp only [List.map_toArray, List.map_cons, List.map_nil, eval_const, e5]; done) | (simp only [List.map_toArray, List.map_cons, List.map_nil, eval_const, e5]; rfl)) (fun cs => by kernel_rfl) (hK _ _ rfl hG rfl)
    · intro hp K hK
      refine g_no rfl ?_
      have e6 : b.eval (.tmp 6) = fl qa := i6.trans (hp 1 (by kernel_rfl))
      exact st_bin rfl (e6) (eval_const _) (b_fge h_a) (hK _ _ rfl hG rfl)
    · intro hp K hK
      refine g_no rfl ?_
      have e7 : b.eval (.tmp 7) = .bool (decide (0 ≤ qa)) := i7.trans (hp 2 (by kernel_rfl))
      exact st_move (.inl rfl) (e7) (hK _ _ rfl hG rfl)
    · intro hp K hK
      refine g_is (j := 3) (want := true) (c := decide (0 ≤ qa)) rfl (yielded_of (d := 8) rfl rfl (i8.trans (hp 3 (by kernel_rfl)))) (fun hb => ?_) (fun hb => hK _ _ (cond_no hb) hG rfl)
      exact st_move (.inl rfl) (e0) (hK _ _ (cond_yes hb).symm hG rfl)
    · intro hp K hK
      refine g_is (j := 3) (want := true) (c := decide (0 ≤ qa)) rfl (yielded_of (d := 8) rfl rfl (i8.trans (hp 3 (by kernel_rfl)))) (fun hb => ?_) (fun hb => hK _ _ (cond_no hb) hG rfl)
      have e9 : b.eval (.tmp 9) = (bif ((decide (0 ≤ qa)) == true) then (pl qa qb) else undef) := i9.trans (hp 4 (by kernel_rfl))
      replace e9 := e9.trans (cond_yes hb)
      exact st_builtin rfl (by first | (simp only [List.map_toArray, List.map_cons, List.map_nil, eval_const, e9]; done) | (simp only [List.map_toArray, List.map_cons, List.map_nil, eval_const, e9]; rfl)) (fun cs => by kernel_rfl) (hK _ _ (cond_yes hb).symm hG rfl)
    · intro hp K hK
      refine g_is (j := 3) (want := true) (c := decide (0 ≤ qa)) rfl (yielded_of (d := 8) rfl rfl (i8.trans (hp 3 (by kernel_rfl)))) (fun hb => ?_) (fun hb => hK _ _ (cond_no hb) hG rfl)
      have e10 : b.eval (.tmp 10) = (bif ((decide (0 ≤ qa)) == true) then (fl qb) else undef) := i10.trans (hp 5 (by kernel_rfl))
      replace e10 := e10.trans (cond_yes hb)
      exact st_bin rfl (e10) (eval_const _) (b_fge h_b) (hK _ _ (cond_yes hb).symm hG rfl)
    · intro hp K hK
      refine g_no rfl ?_
      have e8 : b.eval (.tmp 8) = .bool (decide (0 ≤ qa)) := i8.trans (hp 3 (by kernel_rfl))
      have e11 : b.eval (.tmp 11) = (bif ((decide (0 ≤ qa)) == true) then (.bool (decide (0 ≤ qb))) else undef) := i11.trans (hp 6 (by kernel_rfl))
      exact st_pick rfl (e8) (by first | (rw [e11]; exact pick_and) | (rw [show b.eval (Operand.tmp 11) = _ from eval_const _]; exact pick_and)) (hK _ _ rfl hG rfl)
    · intro hp K hK
      refine g_no rfl ?_
      have e12 : b.eval (.tmp 12) = .bool ((decide (0 ≤ qa)) && (decide (0 ≤ qb))) := i12.trans (hp 7 (by kernel_rfl))
      exact st_move (.inl rfl) (e12) (hK _ _ rfl hG rfl)
    · intro hp K hK
      refine g_is (j := 8) (want := true) (c := (decide (0 ≤ qa)) && (decide (0 ≤ qb))) rfl (yielded_of (d := 13) rfl rfl (i13.trans (hp 8 (by kernel_rfl)))) (fun hb => ?_) (fun hb => hK _ _ (cond_no hb) hG rfl)
      exact st_move (.inl rfl) (e0) (hK _ _ (cond_yes hb).symm hG rfl)
    · intro hp K hK
      refine g_is (j := 8) (want := true) (c := (decide (0 ≤ qa)) && (decide (0 ≤ qb))) rfl (yielded_of (d := 13) rfl rfl (i13.trans (hp 8 (by kernel_rfl)))) (fun hb => ?_) (fun hb => hK _ _ (cond_no hb) hG rfl)
      have e14 : b.eval (.tmp 14) = (bif (((decide (0 ≤ qa)) && (decide (0 ≤ qb))) == true) then (pl qa qb) else undef) := i14.trans (hp 9 (by kernel_rfl))
      replace e14 := e14.trans (cond_yes hb)
      exact st_builtin rfl (by first | (simp only [List.map_toArray, List.map_cons, List.map_nil, eval_const, e14]; done) | (simp only [List.map_toArray, List.map_cons, List.map_nil, eval_const, e14]; rfl)) (fun cs => by kernel_rfl) (hK _ _ (cond_yes hb).symm hG rfl)
    · intro hp K hK
      refine g_is (j := 8) (want := true) (c := (decide (0 ≤ qa)) && (decide (0 ≤ qb))) rfl (yielded_of (d := 13) rfl rfl (i13.trans (hp 8 (by kernel_rfl)))) (fun hb => ?_) (fun hb => hK _ _ (cond_no hb) hG rfl)
      exact st_move (.inl rfl) (e1) (hK _ _ (cond_yes hb).symm hG rfl)
    · intro hp K hK
      refine g_is (j := 8) (want := true) (c := (decide (0 ≤ qa)) && (decide (0 ≤ qb))) rfl (yielded_of (d := 13) rfl rfl (i13.trans (hp 8 (by kernel_rfl)))) (fun hb => ?_) (fun hb => hK _ _ (cond_no hb) hG rfl)
      have e16 : b.eval (.tmp 16) = (bif (((decide (0 ≤ qa)) && (decide (0 ≤ qb))) == true) then (pl qc qd) else undef) := i16.trans (hp 11 (by kernel_rfl))
      replace e16 := e16.trans (cond_yes hb)
      exact st_builtin rfl (by first | (simp only [List.map_toArray, List.map_cons, List.map_nil, eval_const, e16]; done) | (simp only [List.map_toArray, List.map_cons, List.map_nil, eval_const, e16]; rfl)) (fun cs => by kernel_rfl) (hK _ _ (cond_yes hb).symm hG rfl)
    · intro hp K hK
      refine g_is (j := 8) (want := true) (c := (decide (0 ≤ qa)) && (decide (0 ≤ qb))) rfl (yielded_of (d := 13) rfl rfl (i13.trans (hp 8 (by kernel_rfl)))) (fun hb => ?_) (fun hb => hK _ _ (cond_no hb) hG rfl)
      have e15 : b.eval (.tmp 15) = (bif (((decide (0 ≤ qa)) && (decide (0 ≤ qb))) == true) then (fl qa) else undef) := i15.trans (hp 10 (by kernel_rfl))
      replace e15 := e15.trans (cond_yes hb)
      have e17 : b.eval (.tmp 17) = (bif (((decide (0 ≤ qa)) && (decide (0 ≤ qb))) == true) then (fl qc) else undef) := i17.trans (hp 12 (by kernel_rfl))
      replace e17 := e17.trans (cond_yes hb)
      exact st_bin rfl (e15) (e17) (b_flt h_a h_c) (hK _ _ (cond_yes hb).symm hG rfl)
    · intro hp K hK
      refine g_no rfl ?_
      have e13 : b.eval (.tmp 13) = .bool ((decide (0 ≤ qa)) && (decide (0 ≤ qb))) := i13.trans (hp 8 (by kernel_rfl))
      have e18 : b.eval (.tmp 18) = (bif (((decide (0 ≤ qa)) && (decide (0 ≤ qb))) == true) then (.bool (decide (qa < qc))) else undef) := i18.trans (hp 13 (by kernel_rfl))
      exact st_pick rfl (e13) (by first | (rw [e18]; exact pick_and) | (rw [show b.eval (Operand.tmp 18) = _ from eval_const _]; exact pick_and)) (hK _ _ rfl hG rfl)
    · intro hp K hK
      refine g_no rfl ?_
      have e19 : b.eval (.tmp 19) = .bool (((decide (0 ≤ qa)) && (decide (0 ≤ qb))) && (decide (qa < qc))) := i19.trans (hp 14 (by kernel_rfl))
      exact st_move (.inl rfl) (e19) (hK _ _ rfl hG rfl)
    · intro hp K hK
      refine g_is (j := 15) (want := true) (c := ((decide (0 ≤ qa)) && (decide (0 ≤ qb))) && (decide (qa < qc))) rfl (yielded_of (d := 20) rfl rfl (i20.trans (hp 15 (by kernel_rfl)))) (fun hb => ?_) (fun hb => hK _ _ (cond_no hb) hG rfl)
      exact st_move (.inl rfl) (e0) (hK _ _ (cond_yes hb).symm hG rfl)
    · intro hp K hK
      refine g_is (j := 15) (want := true) (c := ((decide (0 ≤ qa)) && (decide (0 ≤ qb))) && (decide (qa < qc))) rfl (yielded_of (d := 20) rfl rfl (i20.trans (hp 15 (by kernel_rfl)))) (fun hb => ?_) (fun hb => hK _ _ (cond_no hb) hG rfl)
      have e21 : b.eval (.tmp 21) = (bif ((((decide (0 ≤ qa)) && (decide (0 ≤ qb))) && (decide (qa < qc))) == true) then (pl qa qb) else undef) := i21.trans (hp 16 (by kernel_rfl))
      replace e21 := e21.trans (cond_yes hb)
      exact st_builtin rfl (by first | (simp only [List.map_toArray, List.map_cons, List.map_nil, eval_const, e21]; done) | (simp only [List.map_toArray, List.map_cons, List.map_nil, eval_const, e21]; rfl)) (fun cs => by kernel_rfl) (hK _ _ (cond_yes hb).symm hG rfl)
    · intro hp K hK
      refine g_is (j := 15) (want := true) (c := ((decide (0 ≤ qa)) && (decide (0 ≤ qb))) && (decide (qa < qc))) rfl (yielded_of (d := 20) rfl rfl (i20.trans (hp 15 (by kernel_rfl)))) (fun hb => ?_) (fun hb => hK _ _ (cond_no hb) hG rfl)
      exact st_move (.inl rfl) (e1) (hK _ _ (cond_yes hb).symm hG rfl)
    · intro hp K hK
      refine g_is (j := 15) (want := true) (c := ((decide (0 ≤ qa)) && (decide (0 ≤ qb))) && (decide (qa < qc))) rfl (yielded_of (d := 20) rfl rfl (i20.trans (hp 15 (by kernel_rfl)))) (fun hb => ?_) (fun hb => hK _ _ (cond_no hb) hG rfl)
      have e23 : b.eval (.tmp 23) = (bif ((((decide (0 ≤ qa)) && (decide (0 ≤ qb))) && (decide (qa < qc))) == true) then (pl qc qd) else undef) := i23.trans (hp 18 (by kernel_rfl))
      replace e23 := e23.trans (cond_yes hb)
      exact st_builtin rfl (by first | (simp only [List.map_toArray, List.map_cons, List.map_nil, eval_const, e23]; done) | (simp only [List.map_toArray, List.map_cons, List.map_nil, eval_const, e23]; rfl)) (fun cs => by kernel_rfl) (hK _ _ (cond_yes hb).symm hG rfl)
    · intro hp K hK
      refine g_is (j := 15) (want := true) (c := ((decide (0 ≤ qa)) && (decide (0 ≤ qb))) && (decide (qa < qc))) rfl (yielded_of (d := 20) rfl rfl (i20.trans (hp 15 (by kernel_rfl)))) (fun hb => ?_) (fun hb => hK _ _ (cond_no hb) hG rfl)
      have e22 : b.eval (.tmp 22) = (bif ((((decide (0 ≤ qa)) && (decide (0 ≤ qb))) && (decide (qa < qc))) == true) then (fl qb) else undef) := i22.trans (hp 17 (by kernel_rfl))
      replace e22 := e22.trans (cond_yes hb)
      have e24 : b.eval (.tmp 24) = (bif ((((decide (0 ≤ qa)) && (decide (0 ≤ qb))) && (decide (qa < qc))) == true) then (fl qd) else undef) := i24.trans (hp 19 (by kernel_rfl))
      replace e24 := e24.trans (cond_yes hb)
      exact st_bin rfl (e22) (e24) (b_flt h_b h_d) (hK _ _ (cond_yes hb).symm hG rfl)
    · intro hp K hK
      refine g_no rfl ?_
      have e20 : b.eval (.tmp 20) = .bool (((decide (0 ≤ qa)) && (decide (0 ≤ qb))) && (decide (qa < qc))) := i20.trans (hp 15 (by kernel_rfl))
      have e25 : b.eval (.tmp 25) = (bif ((((decide (0 ≤ qa)) && (decide (0 ≤ qb))) && (decide (qa < qc))) == true) then (.bool (decide (qb < qd))) else undef) := i25.trans (hp 20 (by kernel_rfl))
      exact st_pick rfl (e20) (by first | (rw [e25]; exact pick_and) | (rw [show b.eval ((Operand.tmp 25)) = _ from eval_const _]; exact pick_and)) (hK _ _ rfl hG rfl)
    · intro hp K hK
      refine g_no rfl ?_
      have e26 : b.eval (.tmp 26) = .bool (wiB qa qb qc qd) := i26.trans (hp 21 (by kernel_rfl))
      exact st_move (.inr rfl) (e26) (hK _ _ rfl hG rfl)
  intro vs W hG hp b hb
  have q22 : vs 22 = .bool (wiB qa qb qc qd) := hp 22 (by decide)
  clear hp
  simp only [fill, Act.put, List.append_eq, List.cons_append, List.nil_append, List.take_succ_cons, List.take_zero, List.setIfInBounds_toArray, List.set_cons_succ, List.set_cons_zero, Nat.reduceAdd, Nat.zero_add, q22] at hb
  subst hb
  refine wpList_nil ?_
  clear q22
  refine HK2.out _ _ ?_
  clear HK2
  go_wp2
  go_ret
  exact ⟨rfl, hG⟩
set_option maxHeartbeats 1000000 in
theorem corner_is (i0 i1 k0 k1 s0 s1 f0 f1 a0 a1 y x : Int) (w : World) (hs0 : 0 ≤ s0 ∧ s0 ≤ 8) (hs1 : 0 ≤ s1 ∧ s1 ≤ 8) (hf0 : 0 ≤ f0 ∧ f0 ≤ 8) (hf1 : 0 ≤ f1 ∧ f1 ≤ 8) (hy : 0 ≤ y ∧ y ≤ 1000) (hx : 0 ≤ x ∧ x ≤ 1000) :
    Calls Try.prog 34 #[frm i0 i1 k0 k1 s0 s1 f0 f1 a0 a1, .int .i64 y, .int .i64 x] w fun e w' => e = .returned (pl (y * s0 - f0) (x * s1 - f1)) ∧ Below w.heap.size w w' := by
  have py := prodb (a := y) (b := s0) (c := 1000) (d := 8) hy hs0
  have px := prodb (a := x) (b := s1) (c := 1000) (d := 8) hx hs1
  have C := Lib.hid (csub (y * s0) (x * s1) f0 f1 ⟨by omega, by omega⟩ ⟨by omega, by omega⟩ ⟨by omega, by omega⟩ ⟨by omega, by omega⟩ ⟨by omega, by omega⟩ ⟨by omega, by omega⟩ (by omega) (by omega))
  have HJ : (w.alloc (.cells #[pl i0 i1, pl k0 k1, pl s0 s1, pl f0 f1, pl a0 a1] 53)).heap[w.heap.size]? = some (.cells #[pl i0 i1, pl k0 k1, pl s0 s1, pl f0 f1, pl a0 a1] 53 (0, 0)) := blk_new w _
  have HB : Below w.heap.size w (w.alloc (.cells #[pl i0 i1, pl k0 k1, pl s0 s1, pl f0 f1, pl a0 a1] 53)) := (Below.refl _ _).alloc (Nat.le_refl _) _
  have HJ := Lib.hid (And.intro HB HJ)
  have HS := Lib.hid (And.intro hs0 (And.intro hs1 (And.intro hy hx)))
  clear hs0 hs1 hf0 hf1 hy hx py px
  go_enter Try.func34, Try.ntmps34
  apply wp_seq_k
  intro K1 hK1
  have HK1 := Lib.hid hK1
  clear hK1
  go_wp2
  refine HK1.out _ _ ?_
  clear HK1
  generalize w.alloc (.cells #[pl i0 i1, pl k0 k1, pl s0 s1, pl f0 f1, pl a0 a1] 53) = u0 at *
  replace HJ := HJ.out
  replace HS := HS.out
  apply wp_seq_k
  intro K2 hK2
  have HK2 := Lib.hid hK2
  clear hK2
  refine wp_listed (R := fun W W' => Below W.heap.size W W') 17 [.val (.int .i64 y), .val (fl y), .val (.pointer (some ⟨w.heap.size, 2, none⟩)), .val (pl s0 s1), .val (fl s0), .val (fl (y * s0)), .val (.int .i64 x), .val (fl x), .val (.pointer (some ⟨w.heap.size, 2, none⟩)), .val (pl s0 s1), .val (fl s1), .val (fl (x * s1)), .val (pl (y * s0) (x * s1)), .val (.pointer (some ⟨w.heap.size, 3, none⟩)), .val (pl f0 f1), .val (pl (y * s0 - f0) (x * s1 - f1)), .val (pl (y * s0 - f0) (x * s1 - f1))] (fun W => Below w.heap.size w W ∧ W.heap[w.heap.size]? = some (.cells #[pl i0 i1, pl k0 k1, pl s0 s1, pl f0 f1, pl a0 a1] 53 (0, 0))) (by kernel_rfl) HJ ?_ ?_
  · intro vs W hG b hb
    have e1 : b.eval (.tmp 1) = .int .i64 y := (congrArg (fun x => Act.eval x (.tmp 1)) hb).trans ((fill_out _ 0 _ (by kernel_rfl)).trans rfl)
    have e2 : b.eval (.tmp 2) = .int .i64 x := (congrArg (fun x => Act.eval x (.tmp 2)) hb).trans ((fill_out _ 0 _ (by kernel_rfl)).trans rfl)
    have e3 : b.eval (.tmp 3) = .pointer (some ⟨w.heap.size, 0, none⟩) := (congrArg (fun x => Act.eval x (.tmp 3)) hb).trans ((fill_out _ 0 _ (by kernel_rfl)).trans rfl)
    have i7 : b.eval (.tmp 7) = vs 0 := (congrArg (fun x => Act.eval x (.tmp 7)) hb).trans ((fill_in _ 0 0 _ _ 7 (by kernel_rfl) rfl rfl (by simp)).trans (congrArg vs (Nat.zero_add _)))
    have i8 : b.eval (.tmp 8) = vs 1 := (congrArg (fun x => Act.eval x (.tmp 8)) hb).trans ((fill_in _ 0 1 _ _ 8 (by kernel_rfl) rfl rfl (by simp)).trans (congrArg vs (Nat.zero_add _)))
    have i9 : b.eval (.tmp 9) = vs 2 := (congrArg (fun x => Act.eval x (.tmp 9)) hb).trans ((fill_in _ 0 2 _ _ 9 (by kernel_rfl) rfl rfl (by simp)).trans (congrArg vs (Nat.zero_add _)))
    have i10 : b.eval (.tmp 10) = vs 3 := (congrArg (fun x => Act.eval x (.tmp 10)) hb).trans ((fill_in _ 0 3 _ _ 10 (by kernel_rfl) rfl rfl (by simp)).trans (congrArg vs (Nat.zero_add _)))
    have i11 : b.eval (.tmp 11) = vs 4 := (congrArg (fun x => Act.eval x (.tmp 11)) hb).trans ((fill_in _ 0 4 _ _ 11 (by kernel_rfl) rfl rfl (by simp)).trans (congrArg vs (Nat.zero_add _)))
    have i12 : b.eval (.tmp 12) = vs 5 := (congrArg (fun x => Act.eval x (.tmp 12)) hb).trans ((fill_in _ 0 5 _ _ 12 (by kernel_rfl) rfl rfl (by simp)).trans (congrArg vs (Nat.zero_add _)))
    have i13 : b.eval (.tmp 13) = vs 6 := (congrArg (fun x => Act.eval x (.tmp 13)) hb).trans ((fill_in _ 0 6 _ _ 13 (by kernel_rfl) rfl rfl (by simp)).trans (congrArg vs (Nat.zero_add _)))
    have i14 : b.eval (.tmp 14) = vs 7 := (congrArg (fun x => Act.eval x (.tmp 14)) hb).trans ((fill_in _ 0 7 _ _ 14 (by kernel_rfl) rfl rfl (by simp)).trans (congrArg vs (Nat.zero_add _)))
    have i15 : b.eval (.tmp 15) = vs 8 := (congrArg (fun x => Act.eval x (.tmp 15)) hb).trans ((fill_in _ 0 8 _ _ 15 (by kernel_rfl) rfl rfl (by simp)).trans (congrArg vs (Nat.zero_add _)))
    have i16 : b.eval (.tmp 16) = vs 9 := (congrArg (fun x => Act.eval x (.tmp 16)) hb).trans ((fill_in _ 0 9 _ _ 16 (by kernel_rfl) rfl rfl (by simp)).trans (congrArg vs (Nat.zero_add _)))
    have i17 : b.eval (.tmp 17) = vs 10 := (congrArg (fun x => Act.eval x (.tmp 17)) hb).trans ((fill_in _ 0 10 _ _ 17 (by kernel_rfl) rfl rfl (by simp)).trans (congrArg vs (Nat.zero_add _)))
    have i18 : b.eval (.tmp 18) = vs 11 := (congrArg (fun x => Act.eval x (.tmp 18)) hb).trans ((fill_in _ 0 11 _ _ 18 (by kernel_rfl) rfl rfl (by simp)).trans (congrArg vs (Nat.zero_add _)))
    have i19 : b.eval (.tmp 19) = vs 12 := (congrArg (fun x => Act.eval x (.tmp 19)) hb).trans ((fill_in _ 0 12 _ _ 19 (by kernel_rfl) rfl rfl (by simp)).trans (congrArg vs (Nat.zero_add _)))
    have i20 : b.eval (.tmp 20) = vs 13 := (congrArg (fun x => Act.eval x (.tmp 20)) hb).trans ((fill_in _ 0 13 _ _ 20 (by kernel_rfl) rfl rfl (by simp)).trans (congrArg vs (Nat.zero_add _)))
    have i21 : b.eval (.tmp 21) = vs 14 := (congrArg (fun x => Act.eval x (.tmp 21)) hb).trans ((fill_in _ 0 14 _ _ 21 (by kernel_rfl) rfl rfl (by simp)).trans (congrArg vs (Nat.zero_add _)))
    have i22 : b.eval (.tmp 22) = vs 15 := (congrArg (fun x => Act.eval x (.tmp 22)) hb).trans ((fill_in _ 0 15 _ _ 22 (by kernel_rfl) rfl rfl (by simp)).trans (congrArg vs (Nat.zero_add _)))
    clear hb
    refine And.intro ?_ (And.intro ?_ (And.intro ?_ (And.intro ?_ (And.intro ?_ (And.intro ?_ (And.intro ?_ (And.intro ?_ (And.intro ?_ (And.intro ?_ (And.intro ?_ (And.intro ?_ (And.intro ?_ (And.intro ?_ (And.intro ?_ (And.intro ?_ (And.intro ?_ (trivial)))))))))))))))))
    · intro hp K hK
      refine g_no rfl ?_
      exact st_move (.inl rfl) (e1) (hK _ _ rfl hG (Below.refl _ _))
    · intro hp K hK
      refine g_no rfl ?_
      have e7 : b.eval (.tmp 7) = .int .i64 y := i7.trans (hp 0 (by kernel_rfl))
      exact st_conv rfl (e7) (by kernel_rfl) (hK _ _ rfl hG (Below.refl _ _))
    · intro hp K hK
      refine g_no rfl ?_
      exact st_field rfl (e3) (by kernel_rfl) (hK _ _ rfl hG (Below.refl _ _))
    · intro hp K hK
      refine g_no rfl ?_
      have e9 : b.eval (.tmp 9) = .pointer (some ⟨w.heap.size, 2, none⟩) := i9.trans (hp 2 (by kernel_rfl))
      exact st_load rfl (e9) (ldp ((blk_cell hG.2 2).trans rfl)) (hK _ _ rfl hG (Below.refl _ _))
    · intro hp K hK
      refine g_no rfl ?_
      have e10 : b.eval (.tmp 10) = pl s0 s1 := i10.trans (hp 3 (by kernel_rfl))
      exact st_builtin rfl (by first | (simp only [List.map_toArray, List.map_cons, List.map_nil, eval_const, e10]; done) | (simp only [List.map_toArray, List.map_cons, List.map_nil, eval_const, e10]; rfl)) (fun cs => by kernel_rfl) (hK _ _ rfl hG (Below.refl _ _))
    · intro hp K hK
      refine g_no rfl ?_
      have e8 : b.eval (.tmp 8) = fl y := i8.trans (hp 1 (by kernel_rfl))
      have e11 : b.eval (.tmp 11) = fl s0 := i11.trans (hp 4 (by kernel_rfl))
      exact st_bin rfl (e8) (e11) (b_fmul HS.2.2.1 ⟨by omega, by omega⟩ rfl) (hK _ _ rfl hG (Below.refl _ _))
    · intro hp K hK
      refine g_no rfl ?_
      exact st_move (.inl rfl) (e2) (hK _ _ rfl hG (Below.refl _ _))
    · intro hp K hK
      refine g_no rfl ?_
      have e13 : b.eval (.tmp 13) = .int .i64 x := i13.trans (hp 6 (by kernel_rfl))
      exact st_conv rfl (e13) (by kernel_rfl) (hK _ _ rfl hG (Below.refl _ _))
    · intro hp K hK
      refine g_no rfl ?_
      exact st_field rfl (e3) (by kernel_rfl) (hK _ _ rfl hG (Below.refl _ _))
    · intro hp K hK
      refine g_no rfl ?_
      have e15 : b.eval (.tmp 15) = .pointer (some ⟨w.heap.size, 2, none⟩) := i15.trans (hp 8 (by kernel_rfl))
      exact st_load rfl (e15) (ldp ((blk_cell hG.2 2).trans rfl)) (hK _ _ rfl hG (Below.refl _ _))
    · intro hp K hK
      refine g_no rfl ?_
      have e16 : b.eval (.tmp 16) = pl s0 s1 := i16.trans (hp 9 (by kernel_rfl))
      exact st_builtin rfl (by first | (simp only [List.map_toArray, List.map_cons, List.map_nil, eval_const, e16]; done) | (simp only [List.map_toArray, List.map_cons, List.map_nil, eval_const, e16]; rfl)) (fun cs => by kernel_rfl) (hK _ _ rfl hG (Below.refl _ _))
    · intro hp K hK
      refine g_no rfl ?_
      have e14 : b.eval (.tmp 14) = fl x := i14.trans (hp 7 (by kernel_rfl))
      have e17 : b.eval (.tmp 17) = fl s1 := i17.trans (hp 10 (by kernel_rfl))
      exact st_bin rfl (e14) (e17) (b_fmul HS.2.2.2 ⟨by omega, by omega⟩ rfl) (hK _ _ rfl hG (Below.refl _ _))
    · intro hp K hK
      refine g_no rfl ?_
      have e12 : b.eval (.tmp 12) = fl (y * s0) := i12.trans (hp 5 (by kernel_rfl))
      have e18 : b.eval (.tmp 18) = fl (x * s1) := i18.trans (hp 11 (by kernel_rfl))
      exact st_builtin rfl (by first | (simp only [List.map_toArray, List.map_cons, List.map_nil, eval_const, e12, e18]; done) | (simp only [List.map_toArray, List.map_cons, List.map_nil, eval_const, e12, e18]; rfl)) (fun cs => by kernel_rfl) (hK _ _ rfl hG (Below.refl _ _))
    · intro hp K hK
      refine g_no rfl ?_
      exact st_field rfl (e3) (by kernel_rfl) (hK _ _ rfl hG (Below.refl _ _))
    · intro hp K hK
      refine g_no rfl ?_
      have e20 : b.eval (.tmp 20) = .pointer (some ⟨w.heap.size, 3, none⟩) := i20.trans (hp 13 (by kernel_rfl))
      exact st_load rfl (e20) (ldp ((blk_cell hG.2 3).trans rfl)) (hK _ _ rfl hG (Below.refl _ _))
    · intro hp K hK
      refine g_no rfl ?_
      have e19 : b.eval (.tmp 19) = pl (y * s0) (x * s1) := i19.trans (hp 12 (by kernel_rfl))
      have e21 : b.eval (.tmp 21) = pl f0 f1 := i21.trans (hp 14 (by kernel_rfl))
      exact st_bin rfl (e19) (e21) (bin_st rfl C.out) (hK _ _ rfl hG (Below.refl _ _))
    · intro hp K hK
      refine g_no rfl ?_
      have e22 : b.eval (.tmp 22) = pl (y * s0 - f0) (x * s1 - f1) := i22.trans (hp 15 (by kernel_rfl))
      exact st_move (.inr rfl) (e22) (hK _ _ rfl hG (Below.refl _ _))
  intro vs W hG hp b hb
  have q16 : vs 16 = pl (y * s0 - f0) (x * s1 - f1) := hp 16 (by decide)
  clear hp
  simp only [fill, Act.put, List.append_eq, List.cons_append, List.nil_append, List.take_succ_cons, List.take_zero, List.setIfInBounds_toArray, List.set_cons_succ, List.set_cons_zero, Nat.reduceAdd, Nat.zero_add, q16] at hb
  subst hb
  refine wpList_nil ?_
  clear q16
  refine HK2.out _ _ ?_
  clear HK2
  have hG := Lib.hid hG
  go_wp2
  go_ret
  exact ⟨rfl, hG.out.1⟩
end Go.Proofs.Ytfcimgdogkpbcaa.W
