/- Whether a network has too many parts. -/
import Derived.Test.YtieoklpgnmbpjaaE15
namespace Go.Proofs.Ytieoklpgnmbpjaa.Gr
open Go.RowKit Dr
open Go.Proofs.YtieoklpgnmbpjaaW.PrintWords (Kd Kd.C Kd.R Kd.M_step Kd.C_below Kd.C_get Kd.R_below Kd.R_reads Kd.R_reads' Kd.R_types Kd.R_step Kd.R_alloc Kd.R_drew Kd.R_lower add_field Kd.R_append Kd.R_bound Kd.R_move Kd.R_mono Kd.R_nil Kd.R_set Kd.R_ne Kd.R_over' Kd.R_typed Kd.C_nil Kd.R_slice Kd.R_append_rows Kd.R_form ReadsRow Kd.C_string)
set_option linter.unusedVariables false
set_option linter.unusedSimpArgs false
set_option maxRecDepth 100000
theorem b_len39 {a : Option Addr} {n c : Nat} (cs : Array Bool) (W : World) : (builtin .len #[39] 3 cs #[.slice a n c]).run Try.prog W = .ok (.value (.int .i64 (n : Int))) W := by kernel_rfl
theorem b_len40 {a : Option Addr} {n c : Nat} (cs : Array Bool) (W : World) : (builtin .len #[40] 3 cs #[.slice a n c]).run Try.prog W = .ok (.value (.int .i64 (n : Int))) W := by kernel_rfl
theorem b_len23 {a : Option Addr} {n c : Nat} (cs : Array Bool) (W : World) : (builtin .len #[23] 3 cs #[.slice a n c]).run Try.prog W = .ok (.value (.int .i64 (n : Int))) W := by kernel_rfl
theorem b_len24 {a : Option Addr} {n c : Nat} (cs : Array Bool) (W : World) : (builtin .len #[24] 3 cs #[.slice a n c]).run Try.prog W = .ok (.value (.int .i64 (n : Int))) W := by kernel_rfl
theorem b_len28 {a : Option Addr} {n c : Nat} (cs : Array Bool) (W : World) : (builtin .len #[28] 3 cs #[.slice a n c]).run Try.prog W = .ok (.value (.int .i64 (n : Int))) W := by kernel_rfl
theorem b_len50 {a : Option Addr} {n c : Nat} (cs : Array Bool) (W : World) : (builtin .len #[50] 3 cs #[.slice a n c]).run Try.prog W = .ok (.value (.int .i64 (n : Int))) W := by kernel_rfl
def lgB (cs : List (List Int × List Int)) (ns : List (List Int)) : Bool × Bool := if 80 < cs.length ∨ 40 < ns.length then (true, false) else (cs.any bigC, cs.any bothC)
set_option maxHeartbeats 16000000 in
theorem large_is (a b c o : Int) (AU AV : Option Addr) (cU cV : Nat) (cs : List (List Int × List Int)) (ns : List (List Int)) (w : World) (hC : kCo.C w AU cs.length cs) :
    Calls Try.prog 12 #[.agg #[.int .i64 a, .int .i64 b, .int .i64 c, .slice AU cs.length cU, .slice AV ns.length cV, .int .i64 o]] w fun e w' => e = .returned (.tuple #[.bool (lgB cs ns).1, .bool (lgB cs ns).2]) ∧ Below w.heap.size w w' := by
  have hbx := blk_new w (.cells #[.int .i64 a, .int .i64 b, .int .i64 c, .slice AU cs.length cU, .slice AV ns.length cV, .int .i64 o] 26)
  have hB := below_alloc (Below.refl w.heap.size w) (.cells #[.int .i64 a, .int .i64 b, .int .i64 c, .slice AU cs.length cU, .slice AV ns.length cV, .int .i64 o] 26)
  have HC := Lib.hid hC
  clear hC
  go_enter Try.func12, Try.ntmps12
  apply wp_seq_k; intro K1 hK1; have HK1 := Lib.hid hK1; clear hK1
  go_wp2
  refine HK1.out _ _ ?_; clear HK1
  generalize w.alloc (.cells #[.int .i64 a, .int .i64 b, .int .i64 c, .slice AU cs.length cU, .slice AV ns.length cV, .int .i64 o] 26) = W1 at *
  have HB := Lib.hid hB
  have HX := Lib.hid hbx
  clear hB hbx
  have c3 : W1.cell? ⟨w.heap.size, 3, none⟩ = some (.slice AU cs.length cU) := (blk_cell HX.out 3).trans rfl
  have c4 : W1.cell? ⟨w.heap.size, 4, none⟩ = some (.slice AV ns.length cV) := (blk_cell HX.out 4).trans rfl
  by_cases h1 : 80 < cs.length
  · have d1 : decide ((80 : Int) < (cs.length : Int)) = true := decide_eq_true (by omega)
    have e : lgB cs ns = (true, false) := by unfold lgB; rw [if_pos (.inl h1)]
    have HE := Lib.hid e
    clear e
    go_wp2
    go_ret2
    rw [HE.out]
    exact ⟨rfl, HB.out⟩
  have d1 : decide ((80 : Int) < (cs.length : Int)) = false := decide_eq_false (by omega)
  by_cases h2 : 40 < ns.length
  · have d2 : decide ((40 : Int) < (ns.length : Int)) = true := decide_eq_true (by omega)
    have e : lgB cs ns = (true, false) := by unfold lgB; rw [if_pos (.inr h2)]
    have HE := Lib.hid e
    clear e
    go_wp2
    go_ret2
    rw [HE.out]
    exact ⟨rfl, HB.out⟩
  have d2 : decide ((40 : Int) < (ns.length : Int)) = false := decide_eq_false (by omega)
  have e : lgB cs ns = (cs.any bigC, cs.any bothC) := by unfold lgB; rw [if_neg (fun h => h.elim h1 h2)]
  have HE := Lib.hid e
  clear e
  go_wp2
  clear d1 d2
  refine wp_loopS [2, 3, 5, 19, 20, 21, 22, 23, 24, 25, 26, 27, 28, 29, 30, 31, 32, 33, 34, 35, 36, 37, 38, 39, 40, 41, 42, 43, 44, 45, 46, 47, 48, 49] (fun sl W => ∃ i : Nat, sl 19 = .int .i64 (i : Int) ∧ i ≤ cs.length ∧ sl 2 = .bool ((cs.take i).any bigC) ∧ sl 3 = .bool ((cs.take i).any bothC) ∧ Below W1.heap.size W1 W) (fun sl W => Msr (cs.length : Int) (sl 19)) ⟨0, rfl, Nat.zero_le _, rfl, rfl, Below.refl _ _⟩ ?_
  intro vs2 W2 a2 hb2' hI
  obtain ⟨i, hsl, hi, hv0, hv1, hS⟩ := hI
  simp only [setSlots, Act.put, List.setIfInBounds_toArray, List.set_cons_succ, List.set_cons_zero] at hb2'
  subst hb2'
  replace hsl : vs2 19 = .int .i64 (i : Int) := hsl
  replace hv0 : vs2 2 = .bool ((cs.take i).any bigC) := hv0
  replace hv1 : vs2 3 = .bool ((cs.take i).any bothC) := hv1
  rw [hsl, hv0, hv1]
  clear hsl hv0 hv1
  have HS := Lib.hid hS
  clear hS
  by_cases hil : i < cs.length
  rotate_left
  · have hd : decide ((i : Int) < (cs.length : Int)) = false := decide_eq_false (by omega)
    obtain rfl : i = cs.length := by omega
    rw [List.take_length]
    go_wp2
    go_ret2
    rw [HE.out]
    exact ⟨rfl, below_step HB.out HS.out⟩
  · have hd : decide ((i : Int) < (cs.length : Int)) = true := decide_eq_true (by omega)
    have hinc : IntKind.i64.wrap ((i : Int) + 1) = (i : Int) + 1 := IntWalk.i64_in _ (by omega)
    obtain ⟨x, hx⟩ : ∃ x, cs[i]? = some x := ⟨_, List.getElem?_eq_getElem hil⟩
    obtain ⟨ad, A1, c1, A2, c2, hAd, hcell, -⟩ := co_get (Kd.C_below (Kd.C_below HC.out HB.out) HS.out) hx
    subst hAd
    have HCE := Lib.hid hcell
    clear hcell
    apply wp_seq_k; intro K2 hK2; have HK2 := Lib.hid hK2; clear hK2
    go_wp2
    refine HK2.out _ _ ?_; clear HK2
    apply wp_seq_k; intro K2 hK2; have HK2 := Lib.hid hK2; clear hK2
    go_wp2
    refine HK2.out _ _ ?_; clear HK2
    apply wp_seq_k; intro K8 hK8; have HK8 := Lib.hid hK8; clear hK8
    apply wp_block
    apply wp_seq_k; intro K3 hK3; have HK3 := Lib.hid hK3; clear hK3
    refine wp_listed (R := fun W W' => Below W.heap.size W W') 3 [.val (.pointer (some (ad.add (i * 2)))), .val (.agg #[.slice A1 x.1.length c1, .slice A2 x.2.length c2]), newSpec (.cells #[.slice none 0 0, .slice none 0 0] 42 (0, 0)) W2.heap.size] (fun W => Below W2.heap.size W2 W) (by kernel_rfl) (Below.refl _ _) ?_ ?_
    · intro vs W hG a1 ha1
      have e17 : a1.eval (.tmp 17) = .slice (some ad) cs.length cU := eo ha1 (by kernel_rfl)
      have e19 : a1.eval (.tmp 19) = .int .i64 (i : Int) := eo ha1 (by kernel_rfl)
      have i21 := ei (d := 21) ha1 0 (by kernel_rfl) rfl rfl (by simp)
      clear ha1
      refine And.intro ?_ (And.intro ?_ (And.intro ?_ (trivial)))
      · intro hp K hK
        refine g_no rfl ?_
        exact st_index rfl (e17) (e19) (ix23 ad cs.length cU i hil _) (hK _ _ rfl hG (Below.refl _ _))
      · intro hp K hK
        refine g_no rfl ?_
        have e21 : a1.eval (.tmp 21) = _ := i21.trans (hp 0 (by kernel_rfl))
        exact st_load rfl (e21) (ld42 HCE.out hG) (hK _ _ rfl hG (Below.refl _ _))
      · intro hp K hK
        refine g_no rfl ?_
        exact st_alloc rfl (by kernel_rfl) (hK _ _ ⟨_, rfl, blk_new _ _, hG.size⟩ (hG.alloc hG.size _) (below_alloc (Below.refl _ _) _))
    intro vs W hG hp a1 ha1
    have q1 : vs 1 = _ := hp 1 (by decide)
    have q2 : ∃ gg, (vs 2) = .pointer (some ⟨gg, 0, none⟩) ∧ W.heap[gg]? = some (.cells #[.slice none 0 0, .slice none 0 0] 42 (0, 0)) ∧ W2.heap.size ≤ gg := hp 2 (by decide)
    clear hp
    simp only [fill, Act.put, List.append_eq, List.cons_append, List.nil_append, List.take_succ_cons, List.take_zero, List.setIfInBounds_toArray, List.set_cons_succ, List.set_cons_zero, Nat.reduceAdd, Nat.zero_add, q1] at ha1
    subst ha1
    simp only [List.append_eq, List.cons_append, List.nil_append, List.drop_succ_cons, List.drop_zero]
    clear q1
    obtain ⟨gy, hv, Agy, hgy⟩ := q2
    rw [hv]
    clear hv
    refine wpList_store_mid rfl 42 (.tmp 5) (.tmp 22) rfl gy 0 #[.slice A1 x.1.length c1, .slice A2 x.2.length c2] (by kernel_rfl) (by kernel_rfl) (by have h := blk_there Agy; exact h) (by kernel_rfl) (by kernel_rfl) ?_
    have hX1 := blk_puts (cs' := #[.slice A1 x.1.length c1, .slice A2 x.2.length c2]) Agy rfl
    have hBV : Below W2.heap.size W2 (W.setCells gy 0 #[.slice A1 x.1.length c1, .slice A2 x.2.length c2].toList) := below_setsL _ 0 0 hG hgy
    clear Agy hG
    generalize W.setCells gy 0 #[.slice A1 x.1.length c1, .slice A2 x.2.length c2].toList = V at hX1 hBV ⊢
    clear W
    have hX := Lib.hid hX1
    have HBV := Lib.hid hBV
    clear hX1 hBV
    refine wpList_nil ?_
    simp only [Act.put]
    refine HK3.out _ _ ?_; clear HK3
    apply wp_seq_k; intro K3 hK3; have HK3 := Lib.hid hK3; clear hK3
    refine wp_listed (R := fun W W' => Below W.heap.size W W') 13 [.val (.bool ((cs.take i).any bigC)), .val (.bool ((cs.take i).any bigC)), .val ((bif (((cs.take i).any bigC) == false) then (.pointer (some ⟨gy, 0, none⟩)) else undef)), .val ((bif (((cs.take i).any bigC) == false) then (.slice A1 x.1.length c1) else undef)), .val ((bif (((cs.take i).any bigC) == false) then (.int .i64 (x.1.length : Int)) else undef)), .val ((bif (((cs.take i).any bigC) == false) then (.bool (decide (65536 < (x.1.length : Int)))) else undef)), .val (.bool (((cs.take i).any bigC) || (decide (65536 < (x.1.length : Int))))), .val (.bool (((cs.take i).any bigC) || (decide (65536 < (x.1.length : Int))))), .val ((bif ((((cs.take i).any bigC) || (decide (65536 < (x.1.length : Int)))) == false) then (.pointer (some ⟨gy, 1, none⟩)) else undef)), .val ((bif ((((cs.take i).any bigC) || (decide (65536 < (x.1.length : Int)))) == false) then (.slice A2 x.2.length c2) else undef)), .val ((bif ((((cs.take i).any bigC) || (decide (65536 < (x.1.length : Int)))) == false) then (.int .i64 (x.2.length : Int)) else undef)), .val ((bif ((((cs.take i).any bigC) || (decide (65536 < (x.1.length : Int)))) == false) then (.bool (decide (65536 < (x.2.length : Int)))) else undef)), .val (.bool ((((cs.take i).any bigC) || (decide (65536 < (x.1.length : Int)))) || (decide (65536 < (x.2.length : Int)))))] (fun W => Below V.heap.size V W) (by kernel_rfl) (Below.refl _ _) ?_ ?_
    · intro vs W hG a1 ha1
      have e2 : a1.eval (.tmp 2) = .bool ((cs.take i).any bigC) := eo ha1 (by kernel_rfl)
      have e5 : a1.eval (.tmp 5) = .pointer (some ⟨gy, 0, none⟩) := eo ha1 (by kernel_rfl)
      have i23 := ei (d := 23) ha1 0 (by kernel_rfl) rfl rfl (by simp)
      have i24 := ei (d := 24) ha1 1 (by kernel_rfl) rfl rfl (by simp)
      have i25 := ei (d := 25) ha1 2 (by kernel_rfl) rfl rfl (by simp)
      have i26 := ei (d := 26) ha1 3 (by kernel_rfl) rfl rfl (by simp)
      have i27 := ei (d := 27) ha1 4 (by kernel_rfl) rfl rfl (by simp)
      have i28 := ei (d := 28) ha1 5 (by kernel_rfl) rfl rfl (by simp)
      have i29 := ei (d := 29) ha1 6 (by kernel_rfl) rfl rfl (by simp)
      have i30 := ei (d := 30) ha1 7 (by kernel_rfl) rfl rfl (by simp)
      have i31 := ei (d := 31) ha1 8 (by kernel_rfl) rfl rfl (by simp)
      have i32 := ei (d := 32) ha1 9 (by kernel_rfl) rfl rfl (by simp)
      have i33 := ei (d := 33) ha1 10 (by kernel_rfl) rfl rfl (by simp)
      have i34 := ei (d := 34) ha1 11 (by kernel_rfl) rfl rfl (by simp)
      clear ha1
      refine And.intro ?_ (And.intro ?_ (And.intro ?_ (And.intro ?_ (And.intro ?_ (And.intro ?_ (And.intro ?_ (And.intro ?_ (And.intro ?_ (And.intro ?_ (And.intro ?_ (And.intro ?_ (And.intro ?_ (trivial)))))))))))))
      · intro hp K hK
        refine g_no rfl ?_
        exact st_move (.inl rfl) (e2) (hK _ _ rfl hG (Below.refl _ _))
      · intro hp K hK
        refine g_no rfl ?_
        have e23 : a1.eval (.tmp 23) = _ := i23.trans (hp 0 (by kernel_rfl))
        exact st_move (.inl rfl) (e23) (hK _ _ rfl hG (Below.refl _ _))
      · intro hp K hK
        refine g_is (j := 1) (want := false) (c := (cs.take i).any bigC) rfl (yielded_of (d := 24) rfl rfl (i24.trans (hp 1 (by kernel_rfl)))) (fun ha1 => ?_) (fun ha1 => hK _ _ (cond_no ha1) hG (Below.refl _ _))
        exact st_field rfl (e5) (by kernel_rfl) (hK _ _ (cond_yes ha1).symm hG (Below.refl _ _))
      · intro hp K hK
        refine g_is (j := 1) (want := false) (c := (cs.take i).any bigC) rfl (yielded_of (d := 24) rfl rfl (i24.trans (hp 1 (by kernel_rfl)))) (fun ha1 => ?_) (fun ha1 => hK _ _ (cond_no ha1) hG (Below.refl _ _))
        have e25 : a1.eval (.tmp 25) = _ := i25.trans (hp 2 (by kernel_rfl))
        replace e25 := e25.trans (cond_yes ha1)
        exact st_load rfl (e25) (ld_cell 39 (by kernel_rfl) ((blk_cell (blk_below hX.out hG) 0).trans rfl)) (hK _ _ (cond_yes ha1).symm hG (Below.refl _ _))
      · intro hp K hK
        refine g_is (j := 1) (want := false) (c := (cs.take i).any bigC) rfl (yielded_of (d := 24) rfl rfl (i24.trans (hp 1 (by kernel_rfl)))) (fun ha1 => ?_) (fun ha1 => hK _ _ (cond_no ha1) hG (Below.refl _ _))
        have e26 : a1.eval (.tmp 26) = _ := i26.trans (hp 3 (by kernel_rfl))
        replace e26 := e26.trans (cond_yes ha1)
        exact st_builtin rfl (by first | (simp only [List.map_toArray, List.map_cons, List.map_nil, eval_const, e26]; done) | (simp only [List.map_toArray, List.map_cons, List.map_nil, eval_const, e26]; rfl)) (fun cs => b_len39 cs _) (hK _ _ (cond_yes ha1).symm hG (Below.refl _ _))
      · intro hp K hK
        refine g_is (j := 1) (want := false) (c := (cs.take i).any bigC) rfl (yielded_of (d := 24) rfl rfl (i24.trans (hp 1 (by kernel_rfl)))) (fun ha1 => ?_) (fun ha1 => hK _ _ (cond_no ha1) hG (Below.refl _ _))
        have e27 : a1.eval (.tmp 27) = _ := i27.trans (hp 4 (by kernel_rfl))
        replace e27 := e27.trans (cond_yes ha1)
        exact st_bin rfl (e27) (eval_const _) b_gtr (hK _ _ (cond_yes ha1).symm hG (Below.refl _ _))
      · intro hp K hK
        refine g_no rfl ?_
        have e24 : a1.eval (.tmp 24) = _ := i24.trans (hp 1 (by kernel_rfl))
        have e28 : a1.eval (.tmp 28) = _ := i28.trans (hp 5 (by kernel_rfl))
        exact st_pick rfl (e24) (by first | (rw [e28]; exact pick_or) | (rw [show a1.eval (Operand.tmp 28) = _ from eval_const _]; exact pick_or)) (hK _ _ rfl hG (Below.refl _ _))
      · intro hp K hK
        refine g_no rfl ?_
        have e29 : a1.eval (.tmp 29) = _ := i29.trans (hp 6 (by kernel_rfl))
        exact st_move (.inl rfl) (e29) (hK _ _ rfl hG (Below.refl _ _))
      · intro hp K hK
        refine g_is (j := 7) (want := false) (c := ((cs.take i).any bigC) || (decide (65536 < (x.1.length : Int)))) rfl (yielded_of (d := 30) rfl rfl (i30.trans (hp 7 (by kernel_rfl)))) (fun ha1 => ?_) (fun ha1 => hK _ _ (cond_no ha1) hG (Below.refl _ _))
        exact st_field rfl (e5) (by kernel_rfl) (hK _ _ (cond_yes ha1).symm hG (Below.refl _ _))
      · intro hp K hK
        refine g_is (j := 7) (want := false) (c := ((cs.take i).any bigC) || (decide (65536 < (x.1.length : Int)))) rfl (yielded_of (d := 30) rfl rfl (i30.trans (hp 7 (by kernel_rfl)))) (fun ha1 => ?_) (fun ha1 => hK _ _ (cond_no ha1) hG (Below.refl _ _))
        have e31 : a1.eval (.tmp 31) = _ := i31.trans (hp 8 (by kernel_rfl))
        replace e31 := e31.trans (cond_yes ha1)
        exact st_load rfl (e31) (ld_cell 40 (by kernel_rfl) ((blk_cell (blk_below hX.out hG) 1).trans rfl)) (hK _ _ (cond_yes ha1).symm hG (Below.refl _ _))
      · intro hp K hK
        refine g_is (j := 7) (want := false) (c := ((cs.take i).any bigC) || (decide (65536 < (x.1.length : Int)))) rfl (yielded_of (d := 30) rfl rfl (i30.trans (hp 7 (by kernel_rfl)))) (fun ha1 => ?_) (fun ha1 => hK _ _ (cond_no ha1) hG (Below.refl _ _))
        have e32 : a1.eval (.tmp 32) = _ := i32.trans (hp 9 (by kernel_rfl))
        replace e32 := e32.trans (cond_yes ha1)
        exact st_builtin rfl (by first | (simp only [List.map_toArray, List.map_cons, List.map_nil, eval_const, e32]; done) | (simp only [List.map_toArray, List.map_cons, List.map_nil, eval_const, e32]; rfl)) (fun cs => b_len40 cs _) (hK _ _ (cond_yes ha1).symm hG (Below.refl _ _))
      · intro hp K hK
        refine g_is (j := 7) (want := false) (c := ((cs.take i).any bigC) || (decide (65536 < (x.1.length : Int)))) rfl (yielded_of (d := 30) rfl rfl (i30.trans (hp 7 (by kernel_rfl)))) (fun ha1 => ?_) (fun ha1 => hK _ _ (cond_no ha1) hG (Below.refl _ _))
        have e33 : a1.eval (.tmp 33) = _ := i33.trans (hp 10 (by kernel_rfl))
        replace e33 := e33.trans (cond_yes ha1)
        exact st_bin rfl (e33) (eval_const _) b_gtr (hK _ _ (cond_yes ha1).symm hG (Below.refl _ _))
      · intro hp K hK
        refine g_no rfl ?_
        have e30 : a1.eval (.tmp 30) = _ := i30.trans (hp 7 (by kernel_rfl))
        have e34 : a1.eval (.tmp 34) = _ := i34.trans (hp 11 (by kernel_rfl))
        exact st_pick rfl (e30) (by first | (rw [e34]; exact pick_or) | (rw [show a1.eval (Operand.tmp 34) = _ from eval_const _]; exact pick_or)) (hK _ _ rfl hG (Below.refl _ _))
    intro vs W hG hp a1 ha1
    have q12 : vs 12 = _ := hp 12 (by decide)
    clear hp
    simp only [fill, Act.put, List.append_eq, List.cons_append, List.nil_append, List.take_succ_cons, List.take_zero, List.setIfInBounds_toArray, List.set_cons_succ, List.set_cons_zero, Nat.reduceAdd, Nat.zero_add, q12] at ha1
    subst ha1
    simp only [List.append_eq, List.cons_append, List.nil_append, List.drop_succ_cons, List.drop_zero]
    clear q12
    have hG1 := Lib.hid hG
    clear hG
    go_wp2
    refine HK3.out _ _ ?_; clear HK3
    have hBV3 := HBV.out.trans (hG1.out.mono HBV.out.size)
    have hX3 := blk_below hX.out hG1.out
    have c0 : W.cell? ⟨gy, 0, none⟩ = some (.slice A1 x.1.length c1) := (blk_cell hX3 0).trans rfl
    have c1' : W.cell? ⟨gy, 1, none⟩ = some (.slice A2 x.2.length c2) := (blk_cell hX3 1).trans rfl
    have HF := Lib.hid (HS.out.trans (hBV3.mono HS.out.size))
    have hr2 : ((cs.take i).any bigC || decide (65536 < (x.1.length : Int)) || decide (65536 < (x.2.length : Int))) = (cs.take (i + 1)).any bigC := by rw [any_snoc bigC hx]; unfold bigC; rw [Bool.or_assoc]
    have hr3 : ((cs.take i).any bothC || (decide (0 < (x.1.length : Int)) && decide (0 < (x.2.length : Int)))) = (cs.take (i + 1)).any bothC := any_snoc bothC hx ▸ rfl
    rw [hr2]
    have HR3 := Lib.hid hr3
    clear hr2 hr3 hX3 hBV3 hG1 HBV HCE hx hX
    rcases Bool.eq_false_or_eq_true ((cs.take i).any bothC) with hB | hB
    · have hr := HR3.out
      rw [hB] at hr ⊢
      simp only [Bool.true_or] at hr
      have HR := Lib.hid hr
      clear hr
      go_wp2
      refine HK8.out _ _ ?_; clear HK8
      go_wp2
      exact ⟨loop_frame (by kernel_rfl), ⟨i + 1, by show Value.int .i64 _ = _; simp, by omega, rfl, (by show Value.bool _ = _; rw [← HR.out]), HF.out⟩, Msr.lt (by omega)⟩
    by_cases g1 : 0 < x.1.length
    rotate_left
    · have hb1 : decide ((0 : Int) < (x.1.length : Int)) = false := decide_eq_false (by omega)
      have hr := HR3.out
      rw [hB] at hr ⊢
      rw [hb1] at hr
      simp only [Bool.false_and, Bool.false_or] at hr
      have HR := Lib.hid hr
      clear hr
      go_wp2
      refine HK8.out _ _ ?_; clear HK8
      go_wp2
      exact ⟨loop_frame (by kernel_rfl), ⟨i + 1, by show Value.int .i64 _ = _; simp, by omega, rfl, (by show Value.bool _ = _; rw [← HR.out]), HF.out⟩, Msr.lt (by omega)⟩
    have hb1 : decide ((0 : Int) < (x.1.length : Int)) = true := decide_eq_true (by omega)
    by_cases g2 : 0 < x.2.length
    · have hb2 : decide ((0 : Int) < (x.2.length : Int)) = true := decide_eq_true (by omega)
      have hr := HR3.out
      rw [hB] at hr ⊢
      rw [hb1, hb2] at hr
      simp only [Bool.false_or, Bool.and_true] at hr
      have HR := Lib.hid hr
      clear hr
      go_wp2
      refine HK8.out _ _ ?_; clear HK8
      go_wp2
      exact ⟨loop_frame (by kernel_rfl), ⟨i + 1, by show Value.int .i64 _ = _; simp, by omega, rfl, (by show Value.bool _ = _; rw [← HR.out]), HF.out⟩, Msr.lt (by omega)⟩
    · have hb2 : decide ((0 : Int) < (x.2.length : Int)) = false := decide_eq_false (by omega)
      have hr := HR3.out
      rw [hB] at hr ⊢
      rw [hb1, hb2] at hr
      simp only [Bool.false_or, Bool.and_false] at hr
      have HR := Lib.hid hr
      clear hr
      go_wp2
      refine HK8.out _ _ ?_; clear HK8
      go_wp2
      exact ⟨loop_frame (by kernel_rfl), ⟨i + 1, by show Value.int .i64 _ = _; simp, by omega, rfl, (by show Value.bool _ = _; rw [← HR.out]), HF.out⟩, Msr.lt (by omega)⟩
end Go.Proofs.Ytieoklpgnmbpjaa.Gr
