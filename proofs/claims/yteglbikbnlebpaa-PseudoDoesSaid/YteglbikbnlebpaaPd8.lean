/- The law PseudoDoes. -/
import Derived.Test.YteglbikbnlebpaaPd7
namespace Go.Proofs.Yteglbikbnlebpaa.Pd
open Go.RowKit Dr PPs
open Go.Proofs.YteglbikbnlebpaaW.PrintWords (Kd Kd.C Kd.R Kd.C_below Kd.R_below Kd.R_reads Kd.R_reads' Kd.R_types Kd.R_step Kd.R_alloc Kd.R_drew Kd.R_lower)
set_option linter.unusedVariables false
set_option linter.unusedSimpArgs false
set_option maxRecDepth 100000

theorem box23 (x0 x1 x2 : Int) (W : World) : (Instr.box 23 (.agg #[.int .u8 x0, .int .u8 x1, .int .u8 x2])).run Try.prog W = .ok (.pointer (some ⟨W.heap.size, 0, none⟩)) (W.alloc (.cells #[.int .u8 x0, .int .u8 x1, .int .u8 x2] 23)) := by kernel_rfl
theorem cv8 (n : Int) (h : 0 ≤ n ∧ n < 256) (W : World) : (convert 5 3 (.int .u8 n)).run Try.prog W = .ok (.int .i64 n) W := by
  have e : (convert 5 3 (.int .u8 n)).run Try.prog W = .ok (.int .i64 (IntKind.i64.wrap n)) W := by kernel_rfl
  rw [e, IntWalk.i64_in _ (by omega)]
theorem cv64 (n : Int) (h : 0 ≤ n ∧ n < 256) (W : World) : (convert 3 22 (.int .i64 n)).run Try.prog W = .ok (.int .u32 n) W := by
  have e : (convert 3 22 (.int .i64 n)).run Try.prog W = .ok (.int .u32 (IntKind.u32.wrap n)) W := by kernel_rfl
  rw [e, IntWalk.u32_in _ (by omega)]
/-- The registers as they were, up to m. -/
def wasTo (u : Int) (m : Nat) : Nat → Int := fun i => if 1 ≤ i ∧ i < m then (u + i * 77) % 4294967296 else 0
theorem was_one (u : Int) : wasTo u 1 = fun _ => 0 := by
  funext i
  unfold wasTo
  rw [if_neg (by omega)]
theorem was_step (u : Int) (m : Nat) (h : 1 ≤ m) : upd1 (wasTo u m) m ((u + m * 77) % 4294967296) = wasTo u (m + 1) := by
  funext i
  unfold upd1 wasTo
  by_cases c : i = m
  · subst c
    rw [if_pos rfl, if_pos (by omega)]
  · rw [if_neg c]
    by_cases d : 1 ≤ i ∧ i < m
    · rw [if_pos d, if_pos (by omega)]
    · rw [if_neg d, if_neg (by omega)]
theorem was_zero (u : Int) (m : Nat) : wasTo u m 0 = 0 := by
  unfold wasTo
  rw [if_neg (by omega)]
theorem was_in (u : Int) (m i : Nat) : 0 ≤ wasTo u m i ∧ wasTo u m i < 4294967296 := by
  unfold wasTo
  split <;> omega
/-- A row of the call's own. -/
def rowSpec (g : Nat) (l : List S38) : DSpec (fun W W' => Below W.heap.size W W') := ⟨fun v W => ∃ A c, v = .slice A l.length c ∧ l.length ≤ c ∧ Kd.R k38 38 W g (fun _ => True) (.slice A l.length c) l, fun _ _ _ ⟨A, c, h1, h2, h3⟩ hb => ⟨A, c, h1, h2, Kd.R_below h3 hb⟩⟩
theorem row_of {W : World} {g g' : Nat} {v : Value} {l : List S38} (h : Kd.R k38 38 W g (fun _ => True) v l) (hg : g' ≤ g) : ∃ A c, v = .slice A l.length c ∧ l.length ≤ c ∧ Kd.R k38 38 W g' (fun _ => True) (.slice A l.length c) l := by
  obtain ⟨A, c, rfl, h2, _⟩ := Kd.R_reads h
  exact ⟨A, c, rfl, h2, Kd.R_lower h hg⟩
theorem row_sets {W : World} {g k : Nat} {v : Value} {l : List S38} {cs : Array Value} {vs : List Value} (h : Kd.R k38 38 W g (fun _ => True) v l) (hk : W.heap[k]? = some (.cells cs 24 (0, 0))) : Kd.R k38 38 (W.setCells k 0 vs) g (fun _ => True) v l := by
  have ht : ∀ q, q ∈ 38 :: k38.E → q ≠ 24 := by
    intro q hq
    rw [show k38.E = [] from rfl] at hq
    have := List.mem_singleton.1 hq
    omega
  have h2 : Kd.R k38 38 (W.setCells k 0 vs) g (fun j => True ∧ j ≠ k) v l := Kd.R_step (Kd.R_types h hk ht) (fun j hj hlt => (blk_puts_far (Array.getElem?_eq_getElem hlt) hj.2).trans (Array.getElem?_eq_getElem hlt).symm)
  exact Go.Proofs.YteglbikbnlebpaaW.PrintWords.Kd.R_mono h2 (fun _ _ => trivial)

set_option maxHeartbeats 8000000 in
theorem law_is (n u x0 x1 x2 : Int) (w : World) (hn : -2147483648 ≤ n ∧ n ≤ 2147483647) (hu : 0 ≤ u ∧ u < 4294967296) (h0 : 0 ≤ x0 ∧ x0 < 256) (h1 : 0 ≤ x1 ∧ x1 < 256) (h2 : 0 ≤ x2 ∧ x2 < 256) :
    Calls Try.prog 3 #[.int .i32 n, .int .u32 u, .agg #[.int .u8 x0, .int .u8 x1, .int .u8 x2]] w fun e w' => e = .returned (.bool true) ∧ Below w.heap.size w w' := by
  obtain ⟨rd, hrd⟩ : ∃ rd : Nat, 1 + x0 % 31 = (rd : Int) := ⟨(1 + x0 % 31).toNat, by omega⟩
  obtain ⟨rs, hrs⟩ : ∃ rs : Nat, x1 % 32 = (rs : Int) := ⟨(x1 % 32).toNat, by omega⟩
  obtain ⟨by_, hby⟩ : ∃ by_ : Nat, 1 + x2 % 31 = (by_ : Int) := ⟨(1 + x2 % 31).toNat, by omega⟩
  have hD : 1 ≤ rd ∧ rd ≤ 31 := by omega
  have hS : rs ≤ 31 := by omega
  have hB : 1 ≤ by_ ∧ by_ ≤ 31 := by omega
  have HN := Lib.hid hn
  have HU := Lib.hid hu
  have HD := Lib.hid hD
  have HS := Lib.hid hS
  have HB := Lib.hid hB
  clear hn hu hD hS hB
  go_enter Try.func3, Try.ntmps3
  apply wp_seq_k
  intro K1 hK1
  have HK1 := Lib.hid hK1
  clear hK1
  refine wp_listed (R := fun W W' => Below W.heap.size W W') 2 [newSpec (.cells #[.int .u8 x0, .int .u8 x1, .int .u8 x2] 23 (0, 0)) (w.heap.size), .val (.bool false)] (fun W => Below w.heap.size w W) (by kernel_rfl) (Below.refl _ _) ?_ ?_
  · intro vs W hG b hb
    have e2 : b.eval (.tmp 2) = .agg #[.int .u8 x0, .int .u8 x1, .int .u8 x2] := eo hb (by kernel_rfl)
    clear hb
    refine And.intro ?_ (And.intro ?_ (trivial))
    · intro hp K hK
      refine g_no rfl ?_
      exact st_box rfl (e2) (box23 _ _ _ _) (hK _ _ ⟨_, rfl, blk_new _ _, hG.size⟩ (hG.alloc hG.size _) ((Below.refl _ _).alloc (Nat.le_refl _) _))
    · intro hp K hK
      refine g_no rfl ?_
      exact st_move (.inr rfl) (eval_const _) (hK _ _ rfl hG (Below.refl _ _))
  intro vs W hG hp b hb
  have q0 : ∃ gg, (vs 0) = .pointer (some ⟨gg, 0, none⟩) ∧ W.heap[gg]? = some (.cells #[.int .u8 x0, .int .u8 x1, .int .u8 x2] 23 (0, 0)) ∧ w.heap.size ≤ gg := hp 0 (by decide)
  have q1 : vs 1 = _ := hp 1 (by decide)
  clear hp
  simp only [fill, Act.put, List.append_eq, List.cons_append, List.nil_append, List.take_succ_cons, List.take_zero, List.setIfInBounds_toArray, List.set_cons_succ, List.set_cons_zero, Nat.reduceAdd, Nat.zero_add, q1] at hb
  subst hb
  refine wpList_nil ?_
  clear q1
  obtain ⟨gx, hv0, A0, hg0⟩ := q0
  rw [hv0]
  clear hv0 vs hg0
  refine HK1.out _ _ ?_
  clear HK1
  apply wp_seq_k
  intro K2 hK2
  have HK2 := Lib.hid hK2
  clear hK2
  refine wp_drawn (R := fun W W' => Below W.heap.size W W') 17 [.val (.pointer (some ⟨gx, 0, none⟩)), .val (.int .u8 x0), .val (.int .u8 (x0 % 31)), .val (.int .i64 (x0 % 31)), .val (.int .i64 (rd : Int)), .val (.pointer (some ⟨gx, 1, none⟩)), .val (.int .u8 x1), .val (.int .u8 (x1 % 32)), .val (.int .i64 (rs : Int)), .val (.pointer (some ⟨gx, 2, none⟩)), .val (.int .u8 x2), .val (.int .u8 (x2 % 31)), .val (.int .i64 (x2 % 31)), .val (.int .i64 (by_ : Int)), .val (.int .i64 (rd : Int)), .val (.int .i64 (rs : Int)), .val (.int .i64 (by_ : Int))] (fun W => Below w.heap.size w W ∧ W.heap[gx]? = some (.cells #[.int .u8 x0, .int .u8 x1, .int .u8 x2] 23 (0, 0))) rfl (by kernel_rfl) ⟨hG.drew, A0⟩ ?_ ?_
  · intro vs W hG b hb
    have e5 : b.eval (.tmp 5) = .pointer (some ⟨gx, 0, none⟩) := eo hb (by kernel_rfl)
    have i14 := ei (d := 14) hb 0 (by kernel_rfl) rfl rfl (by simp)
    have i15 := ei (d := 15) hb 1 (by kernel_rfl) rfl rfl (by simp)
    have i16 := ei (d := 16) hb 2 (by kernel_rfl) rfl rfl (by simp)
    have i17 := ei (d := 17) hb 3 (by kernel_rfl) rfl rfl (by simp)
    have i18 := ei (d := 18) hb 4 (by kernel_rfl) rfl rfl (by simp)
    have i19 := ei (d := 19) hb 5 (by kernel_rfl) rfl rfl (by simp)
    have i20 := ei (d := 20) hb 6 (by kernel_rfl) rfl rfl (by simp)
    have i21 := ei (d := 21) hb 7 (by kernel_rfl) rfl rfl (by simp)
    have i22 := ei (d := 22) hb 8 (by kernel_rfl) rfl rfl (by simp)
    have i23 := ei (d := 23) hb 9 (by kernel_rfl) rfl rfl (by simp)
    have i24 := ei (d := 24) hb 10 (by kernel_rfl) rfl rfl (by simp)
    have i25 := ei (d := 25) hb 11 (by kernel_rfl) rfl rfl (by simp)
    have i26 := ei (d := 26) hb 12 (by kernel_rfl) rfl rfl (by simp)
    have i27 := ei (d := 27) hb 13 (by kernel_rfl) rfl rfl (by simp)
    clear hb
    refine And.intro ?_ (And.intro ?_ (And.intro ?_ (And.intro ?_ (And.intro ?_ (And.intro ?_ (And.intro ?_ (And.intro ?_ (And.intro ?_ (And.intro ?_ (And.intro ?_ (And.intro ?_ (And.intro ?_ (And.intro ?_ (And.intro ?_ (And.intro ?_ (And.intro ?_ (trivial)))))))))))))))))
    · intro hp K hK
      refine g_no rfl ?_
      exact st_index rfl (e5) (eval_const _) (by kernel_rfl) (hK _ _ rfl hG (Below.refl _ _))
    · intro hp K hK
      refine g_no rfl ?_
      have e14 : b.eval (.tmp 14) = _ := i14.trans (hp 0 (by kernel_rfl))
      exact st_load rfl (e14) (ld_cell 5 (by kernel_rfl) ((blk_cell hG.2 0).trans rfl)) (hK _ _ rfl hG (Below.refl _ _))
    · intro hp K hK
      refine g_no rfl ?_
      have e15 : b.eval (.tmp 15) = _ := i15.trans (hp 1 (by kernel_rfl))
      exact st_bin rfl (e15) (eval_const _) (b_rem (by decide) (Int.tmod_eq_emod_of_nonneg h0.1)) (hK _ _ rfl hG (Below.refl _ _))
    · intro hp K hK
      refine g_no rfl ?_
      have e16 : b.eval (.tmp 16) = _ := i16.trans (hp 2 (by kernel_rfl))
      exact st_conv rfl (e16) (cv8 _ (by omega) _) (hK _ _ rfl hG (Below.refl _ _))
    · intro hp K hK
      refine g_no rfl ?_
      have e17 : b.eval (.tmp 17) = _ := i17.trans (hp 3 (by kernel_rfl))
      exact st_bin rfl (eval_const _) (e17) (b_add (by rw [IntWalk.i64_in _ (by omega)]; exact hrd)) (hK _ _ rfl hG (Below.refl _ _))
    · intro hp K hK
      refine g_no rfl ?_
      exact st_index rfl (e5) (eval_const _) (by kernel_rfl) (hK _ _ rfl hG (Below.refl _ _))
    · intro hp K hK
      refine g_no rfl ?_
      have e19 : b.eval (.tmp 19) = _ := i19.trans (hp 5 (by kernel_rfl))
      exact st_load rfl (e19) (ld_cell 5 (by kernel_rfl) ((blk_cell hG.2 1).trans rfl)) (hK _ _ rfl hG (Below.refl _ _))
    · intro hp K hK
      refine g_no rfl ?_
      have e20 : b.eval (.tmp 20) = _ := i20.trans (hp 6 (by kernel_rfl))
      exact st_bin rfl (e20) (eval_const _) (b_rem (by decide) (Int.tmod_eq_emod_of_nonneg h1.1)) (hK _ _ rfl hG (Below.refl _ _))
    · intro hp K hK
      refine g_no rfl ?_
      have e21 : b.eval (.tmp 21) = _ := i21.trans (hp 7 (by kernel_rfl))
      exact st_conv rfl (e21) (hrs ▸ cv8 _ (by omega) _) (hK _ _ rfl hG (Below.refl _ _))
    · intro hp K hK
      refine g_no rfl ?_
      exact st_index rfl (e5) (eval_const _) (by kernel_rfl) (hK _ _ rfl hG (Below.refl _ _))
    · intro hp K hK
      refine g_no rfl ?_
      have e23 : b.eval (.tmp 23) = _ := i23.trans (hp 9 (by kernel_rfl))
      exact st_load rfl (e23) (ld_cell 5 (by kernel_rfl) ((blk_cell hG.2 2).trans rfl)) (hK _ _ rfl hG (Below.refl _ _))
    · intro hp K hK
      refine g_no rfl ?_
      have e24 : b.eval (.tmp 24) = _ := i24.trans (hp 10 (by kernel_rfl))
      exact st_bin rfl (e24) (eval_const _) (b_rem (by decide) (Int.tmod_eq_emod_of_nonneg h2.1)) (hK _ _ rfl hG (Below.refl _ _))
    · intro hp K hK
      refine g_no rfl ?_
      have e25 : b.eval (.tmp 25) = _ := i25.trans (hp 11 (by kernel_rfl))
      exact st_conv rfl (e25) (cv8 _ (by omega) _) (hK _ _ rfl hG (Below.refl _ _))
    · intro hp K hK
      refine g_no rfl ?_
      have e26 : b.eval (.tmp 26) = _ := i26.trans (hp 12 (by kernel_rfl))
      exact st_bin rfl (eval_const _) (e26) (b_add (by rw [IntWalk.i64_in _ (by omega)]; exact hby)) (hK _ _ rfl hG (Below.refl _ _))
    · intro hp K hK
      refine g_no rfl ?_
      have e18 : b.eval (.tmp 18) = _ := i18.trans (hp 4 (by kernel_rfl))
      exact st_move (.inr rfl) (e18) (hK _ _ rfl hG (Below.refl _ _))
    · intro hp K hK
      refine g_no rfl ?_
      have e22 : b.eval (.tmp 22) = _ := i22.trans (hp 8 (by kernel_rfl))
      exact st_move (.inr rfl) (e22) (hK _ _ rfl hG (Below.refl _ _))
    · intro hp K hK
      refine g_no rfl ?_
      have e27 : b.eval (.tmp 27) = _ := i27.trans (hp 13 (by kernel_rfl))
      exact st_move (.inr rfl) (e27) (hK _ _ rfl hG (Below.refl _ _))
  intro vs W hG hp b hb
  have q14 : vs 14 = _ := hp 14 (by decide)
  have q15 : vs 15 = _ := hp 15 (by decide)
  have q16 : vs 16 = _ := hp 16 (by decide)
  clear hp
  simp only [fill, Act.put, List.append_eq, List.cons_append, List.nil_append, List.take_succ_cons, List.take_zero, List.setIfInBounds_toArray, List.set_cons_succ, List.set_cons_zero, Nat.reduceAdd, Nat.zero_add, q14, q15, q16] at hb
  subst hb
  refine wpList_nil ?_
  clear q14 q15 q16
  refine HK2.out _ _ ?_
  clear HK2
  clear A0 hrd hrs hby h0 h1 h2
  replace hG := hG.1
  apply wp_seq_k
  intro K3 hK3
  have HK3 := Lib.hid hK3
  clear hK3
  refine wp_listed (R := fun W W' => Below W.heap.size W W') 2 [.val (.agg (arr fun _ => 0)), newSpec (.cells (arr fun _ => 0) 24 (0, 0)) (w.heap.size)] (fun W => Below w.heap.size w W) (by kernel_rfl) hG ?_ ?_
  · intro vs W hG b hb
    clear hb
    refine And.intro ?_ (And.intro ?_ (trivial))
    · intro hp K hK
      refine g_no rfl ?_
      exact st_build rfl (by first | (simp only [List.map_toArray, List.map_cons, List.map_nil, eval_const]; done) | (simp only [List.map_toArray, List.map_cons, List.map_nil, eval_const]; rfl)) (bld24 _) (hK _ _ rfl hG (Below.refl _ _))
    · intro hp K hK
      refine g_no rfl ?_
      exact st_alloc rfl (new24 _) (hK _ _ ⟨_, rfl, blk_new _ _, hG.size⟩ (hG.alloc hG.size _) ((Below.refl _ _).alloc (Nat.le_refl _) _))
  intro vs W hG hp b hb
  have q0 : vs 0 = _ := hp 0 (by decide)
  have q1 : ∃ gg, (vs 1) = .pointer (some ⟨gg, 0, none⟩) ∧ W.heap[gg]? = some (.cells (arr fun _ => 0) 24 (0, 0)) ∧ w.heap.size ≤ gg := hp 1 (by decide)
  clear hp
  simp only [fill, Act.put, List.append_eq, List.cons_append, List.nil_append, List.take_succ_cons, List.take_zero, List.setIfInBounds_toArray, List.set_cons_succ, List.set_cons_zero, Nat.reduceAdd, Nat.zero_add, q0] at hb
  subst hb
  simp only [List.append_eq, List.cons_append, List.nil_append, List.drop_succ_cons, List.drop_zero]
  clear q0
  obtain ⟨gw, hv, A, hgw⟩ := q1
  rw [hv]
  clear hv
  refine wpList_store_mid rfl 24 (.tmp 10) (.tmp 28) rfl gw 0 (arr fun _ => 0) rfl rfl (by rw [arr_size]; have := blk_there A; rwa [arr_size] at this) (by rw [arr_size]; kernel_rfl) (by kernel_rfl) ?_
  refine wpList_nil ?_
  simp only [Act.put]
  have hA := blk_puts (cs' := arr fun _ => 0) A ((arr_size _).trans (arr_size _).symm)
  have hBB := below_sets (arr fun _ => 0).toList 0 w W gw hG hgw
  clear A hG
  generalize W.setCells gw 0 (arr fun _ => 0).toList = V at hA hBB ⊢
  clear W
  refine HK3.out _ _ ?_
  clear HK3
  apply wp_seq_k
  intro K4 hK4
  have HK4 := Lib.hid hK4
  clear hK4
  apply wp_seq_k
  intro K5 hK5
  have HK5 := Lib.hid hK5
  clear hK5
  have HA := Lib.hid hA
  have HBB := Lib.hid hBB
  clear hA hBB
  go_wp2
  refine HK5.out _ _ ?_
  clear HK5
  apply wp_block
  refine wp_loopS [11, 29, 30, 31, 32, 33, 34, 35, 36, 37, 38, 39] (fun sl W => ∃ m : Nat, sl 11 = .int .i64 (m : Int) ∧ (1 ≤ m ∧ m ≤ 32) ∧ Below w.heap.size w W ∧ W.heap[gw]? = some (.cells (arr (wasTo u m)) 24 (0, 0))) (fun sl W => Msr (32 : Int) (sl 11)) ⟨1, rfl, by omega, HBB.out, by rw [was_one]; exact HA.out⟩ ?_
  clear HA HBB
  intro vs W b hb hI
  obtain ⟨m, h11, hm, hG⟩ := hI
  simp only [setSlots, Act.put, List.setIfInBounds_toArray, List.set_cons_succ, List.set_cons_zero] at hb
  subst hb
  replace h11 : vs 11 = .int .i64 (m : Int) := h11
  rw [h11]
  clear h11
  apply wp_seq_k
  intro K6 hK6
  have HK6 := Lib.hid hK6
  clear hK6
  apply wp_seq_k
  intro K7 hK7
  have HK7 := Lib.hid hK7
  clear hK7
  refine wp_listed (R := fun W W' => Below W.heap.size W W') 2 [.val (.int .i64 (m : Int)), .val (.bool (decide ((m : Int) < 32)))] (fun W => Below w.heap.size w W ∧ W.heap[gw]? = some (.cells (arr (wasTo u m)) 24 (0, 0))) (by kernel_rfl) hG ?_ ?_
  · intro vs W hG b hb
    have e11 : b.eval (.tmp 11) = .int .i64 (m : Int) := eo hb (by kernel_rfl)
    have i29 := ei (d := 29) hb 0 (by kernel_rfl) rfl rfl (by simp)
    clear hb
    refine And.intro ?_ (And.intro ?_ (trivial))
    · intro hp K hK
      refine g_no rfl ?_
      exact st_move (.inl rfl) (e11) (hK _ _ rfl hG (Below.refl _ _))
    · intro hp K hK
      refine g_no rfl ?_
      have e29 : b.eval (.tmp 29) = _ := i29.trans (hp 0 (by kernel_rfl))
      exact st_bin rfl (e29) (eval_const _) b_lss (hK _ _ rfl hG (Below.refl _ _))
  intro vs W hG hp b hb
  have q1 : vs 1 = _ := hp 1 (by decide)
  clear hp
  simp only [fill, Act.put, List.append_eq, List.cons_append, List.nil_append, List.take_succ_cons, List.take_zero, List.setIfInBounds_toArray, List.set_cons_succ, List.set_cons_zero, Nat.reduceAdd, Nat.zero_add, q1] at hb
  subst hb
  refine wpList_nil ?_
  clear q1
  refine HK7.out _ _ ?_
  clear HK7
  refine wp_cond_split rfl (fun hlt => ?_) (fun hlt => ?_)
  · have hml : m < 32 := by have := of_decide_eq_true hlt; omega
    clear hlt
    apply wp_skip
    simp only [Exit.then]
    refine HK6.out _ _ ?_
    clear HK6
    apply wp_seq_k
    intro K8 hK8
    have HK8 := Lib.hid hK8
    clear hK8
    apply wp_block
    refine wp_listed (R := fun W W' => Below W.heap.size W W') 7 [.val (.int .i64 (m : Int)), .val (.int .u32 u), .val (.int .i64 (m : Int)), .val (.int .u32 (m : Int)), .val (.int .u32 ((m : Int) * 77)), .val (.int .u32 ((u + (m : Int) * 77) % 4294967296)), .val (.pointer (some ⟨gw, 0 + m, none⟩))] (fun W => Below w.heap.size w W ∧ W.heap[gw]? = some (.cells (arr (wasTo u m)) 24 (0, 0))) (by kernel_rfl) hG ?_ ?_
    · intro vs W hG b hb
      have e1 : b.eval (.tmp 1) = .int .u32 u := eo hb (by kernel_rfl)
      have e10 : b.eval (.tmp 10) = .pointer (some ⟨gw, 0, none⟩) := eo hb (by kernel_rfl)
      have e11 : b.eval (.tmp 11) = .int .i64 (m : Int) := eo hb (by kernel_rfl)
      have i33 := ei (d := 33) hb 0 (by kernel_rfl) rfl rfl (by simp)
      have i34 := ei (d := 34) hb 1 (by kernel_rfl) rfl rfl (by simp)
      have i35 := ei (d := 35) hb 2 (by kernel_rfl) rfl rfl (by simp)
      have i36 := ei (d := 36) hb 3 (by kernel_rfl) rfl rfl (by simp)
      have i37 := ei (d := 37) hb 4 (by kernel_rfl) rfl rfl (by simp)
      clear hb
      refine And.intro ?_ (And.intro ?_ (And.intro ?_ (And.intro ?_ (And.intro ?_ (And.intro ?_ (And.intro ?_ (trivial)))))))
      · intro hp K hK
        refine g_no rfl ?_
        exact st_move (.inl rfl) (e11) (hK _ _ rfl hG (Below.refl _ _))
      · intro hp K hK
        refine g_no rfl ?_
        exact st_move (.inl rfl) (e1) (hK _ _ rfl hG (Below.refl _ _))
      · intro hp K hK
        refine g_no rfl ?_
        exact st_move (.inl rfl) (e11) (hK _ _ rfl hG (Below.refl _ _))
      · intro hp K hK
        refine g_no rfl ?_
        have e35 : b.eval (.tmp 35) = _ := i35.trans (hp 2 (by kernel_rfl))
        exact st_conv rfl (e35) (cv64 _ (by omega) _) (hK _ _ rfl hG (Below.refl _ _))
      · intro hp K hK
        refine g_no rfl ?_
        have e36 : b.eval (.tmp 36) = _ := i36.trans (hp 3 (by kernel_rfl))
        exact st_bin rfl (e36) (eval_const _) (b_mul (IntWalk.u32_in _ (by omega))) (hK _ _ rfl hG (Below.refl _ _))
      · intro hp K hK
        refine g_no rfl ?_
        have e34 : b.eval (.tmp 34) = _ := i34.trans (hp 1 (by kernel_rfl))
        have e37 : b.eval (.tmp 37) = _ := i37.trans (hp 4 (by kernel_rfl))
        exact st_bin rfl (e34) (e37) (b_add (IntKind.wrap_u32 _)) (hK _ _ rfl hG (Below.refl _ _))
      · intro hp K hK
        refine g_no rfl ?_
        have e33 : b.eval (.tmp 33) = _ := i33.trans (hp 0 (by kernel_rfl))
        exact st_index rfl (e10) (e33) (ixa _ _ _ hml _) (hK _ _ rfl hG (Below.refl _ _))
    intro vs W hG hp b hb
    have q5 : vs 5 = _ := hp 5 (by decide)
    have q6 : vs 6 = _ := hp 6 (by decide)
    clear hp
    simp only [fill, Act.put, List.append_eq, List.cons_append, List.nil_append, List.take_succ_cons, List.take_zero, List.setIfInBounds_toArray, List.set_cons_succ, List.set_cons_zero, Nat.reduceAdd, Nat.zero_add, q5, q6] at hb
    subst hb
    simp only [List.append_eq, List.cons_append, List.nil_append, List.drop_succ_cons, List.drop_zero]
    clear q5 q6
    have z : W.cell? ⟨gw, 0 + m, none⟩ = some (.int .u32 (wasTo u m m)) := (blk_cell hG.2 (0 + m)).trans (by rw [Nat.zero_add]; exact arr_get _ hml)
    have y := blk_frozen hG.2 (0 + m)
    have HG := Lib.hid hG
    have Hml := Lib.hid hml
    have Hm := Lib.hid hm
    clear hG hml hm
    have hst := was_step u m Hm.out.1
    generalize (u + (m : Int) * 77) % 4294967296 = vv at hst ⊢
    have HST := Lib.hid hst
    clear hst
    simp only [Nat.zero_add] at z y ⊢
    go_wp2
    refine HK8.out _ _ ?_
    clear HK8
    have hl : IntKind.i64.wrap ((m : Int) + 1) = (m : Int) + 1 := IntWalk.i64_in _ (by have := Hml.out; omega)
    go_wp2
    refine ⟨loop_frame (by kernel_rfl), ⟨m + 1, by show Value.int .i64 _ = _; simp, ⟨by omega, Hml.out⟩, below_set HG.out.1 hgw, ?_⟩, ?_⟩
    · rw [← HST.out]
      exact blk_put HG.out.2 m _ (arr_put _ Hml.out _)
    · exact Msr.lt (by have := Hml.out; omega)
  have hle : m = 32 := by have := of_decide_eq_false hlt; omega
  clear hlt
  apply wp_exit
  simp only [Exit.inBlock, Exit.then, ↓reduceIte]
  subst hle
  clear hm
  have hz := was_zero u 32
  have hi := was_in u 32
  generalize wasTo u 32 = ρ at hG hz hi
  have HZ := Lib.hid hz
  have HI := Lib.hid hi
  clear hz hi
  refine HK4.out _ _ ?_
  clear HK4
  apply wp_seq_k
  intro K9 hK9
  have HK9 := Lib.hid hK9
  clear hK9
  have hset := Go.Proofs.Yteglbikbnlebpaa.Pure.set_is (rd : Int) n HN.out.1 HN.out.2
  have hin := set_in rd n HD.out HN.out
  have hlen := set_len rd n HD.out
  have hrun := fun ρ h0 => runs_set ρ rd n HD.out h0
  generalize Go.Proofs.Yteglbikbnlebpaa.Pure.setL (rd : Int) n = l at hset hin hlen hrun
  have HIN := Lib.hid hin
  have HLEN := Lib.hid hlen
  have HRUN := Lib.hid hrun
  clear hin hlen hrun
  refine wp_listed (R := fun W W' => Below W.heap.size W W') 4 [.val (.int .i64 (rd : Int)), .val (.int .i32 n), rowSpec w.heap.size (l), rowSpec w.heap.size (l)] (fun W => Below w.heap.size w W ∧ W.heap[gw]? = some (.cells (arr ρ) 24 (0, 0))) (by kernel_rfl) hG ?_ ?_
  · intro vs W hG b hb
    have e0 : b.eval (.tmp 0) = .int .i32 n := eo hb (by kernel_rfl)
    have e7 : b.eval (.tmp 7) = .int .i64 (rd : Int) := eo hb (by kernel_rfl)
    have i40 := ei (d := 40) hb 0 (by kernel_rfl) rfl rfl (by simp)
    have i41 := ei (d := 41) hb 1 (by kernel_rfl) rfl rfl (by simp)
    have i42 := ei (d := 42) hb 2 (by kernel_rfl) rfl rfl (by simp)
    clear hb
    refine And.intro ?_ (And.intro ?_ (And.intro ?_ (And.intro ?_ (trivial))))
    · intro hp K hK
      refine g_no rfl ?_
      exact st_move (.inl rfl) (e7) (hK _ _ rfl hG (Below.refl _ _))
    · intro hp K hK
      refine g_no rfl ?_
      exact st_move (.inl rfl) (e0) (hK _ _ rfl hG (Below.refl _ _))
    · intro hp K hK
      refine g_no rfl ?_
      have e40 : b.eval (.tmp 40) = _ := i40.trans (hp 0 (by kernel_rfl))
      have e41 : b.eval (.tmp 41) = _ := i41.trans (hp 1 (by kernel_rfl))
      refine st_call rfl (by first | (simp only [List.map_toArray, List.map_cons, List.map_nil, eval_const, e40, e41]; done) | (simp only [List.map_toArray, List.map_cons, List.map_nil, eval_const, e40, e41]; rfl)) (by kernel_rfl) ?_
      refine (pseudo_Set.calls 5 _ _ l _ hset).mono ?_
      rintro e w' ⟨v, rfl, hR, hb'⟩; obtain ⟨A, c, rfl, hc, hR⟩ := row_of hR hG.1.size
      exact ⟨_, rfl, hK _ _ ⟨_, _, rfl, hc, hR⟩ ⟨below_step hG.1 hb', blk_below hG.2 hb'⟩ hb'⟩
    · intro hp K hK
      refine g_no rfl ?_
      have q2 : ∃ A c, (vs 2) = .slice A (l).length c ∧ (l).length ≤ c ∧ Kd.R k38 38 W w.heap.size (fun _ => True) (.slice A (l).length c) (l) := hp 2 (by kernel_rfl)
      obtain ⟨A, c, hv, hc, hR⟩ := q2
      have e42 := i42.trans hv
      exact st_move (.inr rfl) (e42) (hK _ _ ⟨_, _, rfl, hc, hR⟩ hG (Below.refl _ _))
  intro vs W hG hp b hb
  have q0 : vs 0 = _ := hp 0 (by decide)
  have q1 : vs 1 = _ := hp 1 (by decide)
  have q2 : ∃ A c, (vs 2) = .slice A (l).length c ∧ (l).length ≤ c ∧ Kd.R k38 38 W w.heap.size (fun _ => True) (.slice A (l).length c) (l) := hp 2 (by decide)
  have q3 : ∃ A c, (vs 3) = .slice A (l).length c ∧ (l).length ≤ c ∧ Kd.R k38 38 W w.heap.size (fun _ => True) (.slice A (l).length c) (l) := hp 3 (by decide)
  clear hp
  simp only [fill, Act.put, List.append_eq, List.cons_append, List.nil_append, List.take_succ_cons, List.take_zero, List.setIfInBounds_toArray, List.set_cons_succ, List.set_cons_zero, Nat.reduceAdd, Nat.zero_add, q0, q1] at hb
  subst hb
  refine wpList_nil ?_
  clear q0 q1
  clear q2 hset
  obtain ⟨A, c, hv, hc, hR⟩ := q3
  rw [hv]
  clear hv
  have HC := Lib.hid hc
  clear hc
  refine HK9.out _ _ ?_
  clear HK9
  apply wp_seq_k
  intro K10 hK10
  have HK10 := Lib.hid hK10
  clear hK10
  obtain ⟨σ, hσ⟩ : ∃ σ, runs ρ l = σ := ⟨_, rfl⟩
  have HSG := Lib.hid hσ
  clear hσ
  refine wp_listed (R := fun W W' => Below W.heap.size W W') 4 [.val (.agg (arr ρ)), .val (.slice A l.length c), .val (.agg (arr σ)), newSpec (.cells (arr fun _ => 0) 24 (0, 0)) (gw + 1)] (fun W => Below w.heap.size w W ∧ W.heap[gw]? = some (.cells (arr ρ) 24 (0, 0)) ∧ Kd.R k38 38 W w.heap.size (fun _ => True) (.slice A l.length c) l) (by kernel_rfl) ⟨hG.1, hG.2, hR⟩ ?_ ?_
  · intro vs W hG b hb
    have e10 : b.eval (.tmp 10) = .pointer (some ⟨gw, 0, none⟩) := eo hb (by kernel_rfl)
    have e12 : b.eval (.tmp 12) = .slice A l.length c := eo hb (by kernel_rfl)
    have i43 := ei (d := 43) hb 0 (by kernel_rfl) rfl rfl (by simp)
    have i44 := ei (d := 44) hb 1 (by kernel_rfl) rfl rfl (by simp)
    clear hb
    refine And.intro ?_ (And.intro ?_ (And.intro ?_ (And.intro ?_ (trivial))))
    · intro hp K hK
      refine g_no rfl ?_
      exact st_load rfl (e10) (ld_all 24 _ hG.2.1 Try.underlying24 rfl (by rw [arr_size]; kernel_rfl)) (hK _ _ rfl hG (Below.refl _ _))
    · intro hp K hK
      refine g_no rfl ?_
      exact st_move (.inl rfl) (e12) (hK _ _ rfl hG (Below.refl _ _))
    · intro hp K hK
      refine g_no rfl ?_
      have e43 : b.eval (.tmp 43) = _ := i43.trans (hp 0 (by kernel_rfl))
      have e44 : b.eval (.tmp 44) = _ := i44.trans (hp 1 (by kernel_rfl))
      refine st_call rfl (by first | (simp only [List.map_toArray, List.map_cons, List.map_nil, eval_const, e43, e44]; done) | (simp only [List.map_toArray, List.map_cons, List.map_nil, eval_const, e43, e44]; rfl)) (by kernel_rfl) ?_
      refine (HSG.out ▸ does_is ρ A c l _ (Nat.le_trans HLEN.out.2 (by decide)) (fun x hx => (HIN.out x hx).1) (Kd.R_reads' hG.2.2).2.2).mono ?_
      rintro e w' ⟨rfl, hb'⟩
      exact ⟨_, rfl, hK _ _ rfl ⟨below_step hG.1 hb', blk_below hG.2.1 hb', Kd.R_below hG.2.2 hb'⟩ hb'⟩
    · intro hp K hK
      refine g_no rfl ?_
      exact st_alloc rfl (new24 _) (hK _ _ ⟨_, rfl, blk_new _ _, blk_lt hG.2.1⟩ ⟨hG.1.alloc hG.1.size _, blk_alloc hG.2.1 _, Kd.R_alloc hG.2.2 _⟩ ((Below.refl _ _).alloc (Nat.le_refl _) _))
  intro vs W hG hp b hb
  have q0 : vs 0 = _ := hp 0 (by decide)
  have q1 : vs 1 = _ := hp 1 (by decide)
  have q2 : vs 2 = _ := hp 2 (by decide)
  have q3 : ∃ gg, (vs 3) = .pointer (some ⟨gg, 0, none⟩) ∧ W.heap[gg]? = some (.cells (arr fun _ => 0) 24 (0, 0)) ∧ gw + 1 ≤ gg := hp 3 (by decide)
  clear hp
  simp only [fill, Act.put, List.append_eq, List.cons_append, List.nil_append, List.take_succ_cons, List.take_zero, List.setIfInBounds_toArray, List.set_cons_succ, List.set_cons_zero, Nat.reduceAdd, Nat.zero_add, q0, q1, q2] at hb
  subst hb
  simp only [List.append_eq, List.cons_append, List.nil_append, List.drop_succ_cons, List.drop_zero]
  clear q0 q1 q2
  clear hR
  obtain ⟨gn, hv, An, hgn⟩ := q3
  rw [hv]
  clear hv
  refine wpList_store_mid rfl 24 (.tmp 13) (.tmp 45) rfl gn 0 (arr σ) rfl rfl (by rw [arr_size]; have := blk_there An; rwa [arr_size] at this) (by rw [arr_size]; kernel_rfl) (by kernel_rfl) ?_
  refine wpList_nil ?_
  simp only [Act.put]
  have hG2 : (Below w.heap.size w (W.setCells gn 0 (arr σ).toList) ∧ (W.setCells gn 0 (arr σ).toList).heap[gw]? = some (.cells (arr ρ) 24 (0, 0)) ∧ Kd.R k38 38 (W.setCells gn 0 (arr σ).toList) w.heap.size (fun _ => True) (.slice A l.length c) l) ∧ (W.setCells gn 0 (arr σ).toList).heap[gn]? = some (.cells (arr σ) 24 (0, 0)) := ⟨⟨below_sets _ 0 w W gn hG.1 (by omega), blk_puts_far hG.2.1 (by omega), row_sets hG.2.2 An⟩, blk_puts (cs' := arr σ) An ((arr_size _).trans (arr_size _).symm)⟩
  clear An hG
  generalize W.setCells gn 0 (arr σ).toList = V at hG2 ⊢
  clear W
  refine HK10.out _ _ ?_
  clear HK10
  apply wp_seq_k
  intro K11 hK11
  have HK11 := Lib.hid hK11
  clear hK11
  apply wp_seq_k
  intro K12 hK12
  have HK12 := Lib.hid hK12
  clear hK12
  have hσ : ∀ i, σ i = if i = 0 then 0 else if i = rd then n % 4294967296 else ρ i := fun i => by rw [← HSG.out]; exact HRUN.out ρ HZ.out i
  have Hσ := Lib.hid hσ
  clear hσ HRUN HSG
  have hoth : ∀ i : Nat, i < 32 → (i : Int) ≠ (rd : Int) → (i : Int) ≠ (rd : Int) → ρ i = σ i := by
    intro i _ h1 _
    rw [Hσ.out]
    by_cases c0 : i = 0
    · rw [if_pos c0, c0]; exact HZ.out
    · rw [if_neg c0, if_neg (by omega)]
  have HO := Lib.hid hoth
  clear hoth
  refine wp_listed (R := fun W W' => Below W.heap.size W W') 29 [.val (.slice A l.length c), .val (.int .i64 ((l).length : Int)), .val (.bool (decide (((l).length : Int) < 1))), .val (.bool (decide (((l).length : Int) < 1))), .val ((bif ((decide (((l).length : Int) < 1)) == false) then (.slice A l.length c) else undef)), .val ((bif ((decide (((l).length : Int) < 1)) == false) then (.int .i64 ((l).length : Int)) else undef)), .val ((bif ((decide (((l).length : Int) < 1)) == false) then (.bool (decide (2 < ((l).length : Int)))) else undef)), .val (.bool ((decide (((l).length : Int) < 1)) || (decide (2 < ((l).length : Int))))), .val (.bool ((decide (((l).length : Int) < 1)) || (decide (2 < ((l).length : Int))))), .val ((bif (((decide (((l).length : Int) < 1)) || (decide (2 < ((l).length : Int)))) == false) then (.int .i64 (rd : Int)) else undef)), .val ((bif (((decide (((l).length : Int) < 1)) || (decide (2 < ((l).length : Int)))) == false) then (.pointer (some ⟨gn, 0 + rd, none⟩)) else undef)), .val ((bif (((decide (((l).length : Int) < 1)) || (decide (2 < ((l).length : Int)))) == false) then (.int .u32 (σ rd)) else undef)), .val ((bif (((decide (((l).length : Int) < 1)) || (decide (2 < ((l).length : Int)))) == false) then (.int .i32 n) else undef)), .val ((bif (((decide (((l).length : Int) < 1)) || (decide (2 < ((l).length : Int)))) == false) then (.int .u32 (IntKind.u32.wrap n)) else undef)), .val ((bif (((decide (((l).length : Int) < 1)) || (decide (2 < ((l).length : Int)))) == false) then (.bool ((σ rd) != (IntKind.u32.wrap n))) else undef)), .val (.bool (((decide (((l).length : Int) < 1)) || (decide (2 < ((l).length : Int)))) || ((σ rd) != (IntKind.u32.wrap n)))), .val (.bool (((decide (((l).length : Int) < 1)) || (decide (2 < ((l).length : Int)))) || ((σ rd) != (IntKind.u32.wrap n)))), .val ((bif ((((decide (((l).length : Int) < 1)) || (decide (2 < ((l).length : Int)))) || ((σ rd) != (IntKind.u32.wrap n))) == false) then (.agg (arr ρ)) else undef)), .val ((bif ((((decide (((l).length : Int) < 1)) || (decide (2 < ((l).length : Int)))) || ((σ rd) != (IntKind.u32.wrap n))) == false) then (.agg (arr σ)) else undef)), .val ((bif ((((decide (((l).length : Int) < 1)) || (decide (2 < ((l).length : Int)))) || ((σ rd) != (IntKind.u32.wrap n))) == false) then (.int .i64 (rd : Int)) else undef)), .val ((bif ((((decide (((l).length : Int) < 1)) || (decide (2 < ((l).length : Int)))) || ((σ rd) != (IntKind.u32.wrap n))) == false) then (.int .i64 (rd : Int)) else undef)), .val ((bif ((((decide (((l).length : Int) < 1)) || (decide (2 < ((l).length : Int)))) || ((σ rd) != (IntKind.u32.wrap n))) == false) then (.bool true) else undef)), .val ((bif ((((decide (((l).length : Int) < 1)) || (decide (2 < ((l).length : Int)))) || ((σ rd) != (IntKind.u32.wrap n))) == false) then (.bool (!true)) else undef)), .val (.bool ((((decide (((l).length : Int) < 1)) || (decide (2 < ((l).length : Int)))) || ((σ rd) != (IntKind.u32.wrap n))) || (!true))), .val (.bool ((((decide (((l).length : Int) < 1)) || (decide (2 < ((l).length : Int)))) || ((σ rd) != (IntKind.u32.wrap n))) || (!true))), .val ((bif (((((decide (((l).length : Int) < 1)) || (decide (2 < ((l).length : Int)))) || ((σ rd) != (IntKind.u32.wrap n))) || (!true)) == false) then (.slice A l.length c) else undef)), .val ((bif (((((decide (((l).length : Int) < 1)) || (decide (2 < ((l).length : Int)))) || ((σ rd) != (IntKind.u32.wrap n))) || (!true)) == false) then (.bool true) else undef)), .val ((bif (((((decide (((l).length : Int) < 1)) || (decide (2 < ((l).length : Int)))) || ((σ rd) != (IntKind.u32.wrap n))) || (!true)) == false) then (.bool (!true)) else undef)), .val (.bool (((((decide (((l).length : Int) < 1)) || (decide (2 < ((l).length : Int)))) || ((σ rd) != (IntKind.u32.wrap n))) || (!true)) || (!true)))] (fun W => (Below w.heap.size w W ∧ W.heap[gw]? = some (.cells (arr ρ) 24 (0, 0)) ∧ Kd.R k38 38 W w.heap.size (fun _ => True) (.slice A l.length c) l) ∧ W.heap[gn]? = some (.cells (arr σ) 24 (0, 0))) (by kernel_rfl) hG2 ?_ ?_
  · intro vs W hG b hb
    have e0 : b.eval (.tmp 0) = .int .i32 n := eo hb (by kernel_rfl)
    have e7 : b.eval (.tmp 7) = .int .i64 (rd : Int) := eo hb (by kernel_rfl)
    have e10 : b.eval (.tmp 10) = .pointer (some ⟨gw, 0, none⟩) := eo hb (by kernel_rfl)
    have e12 : b.eval (.tmp 12) = .slice A l.length c := eo hb (by kernel_rfl)
    have e13 : b.eval (.tmp 13) = .pointer (some ⟨gn, 0, none⟩) := eo hb (by kernel_rfl)
    have i46 := ei (d := 46) hb 0 (by kernel_rfl) rfl rfl (by simp)
    have i47 := ei (d := 47) hb 1 (by kernel_rfl) rfl rfl (by simp)
    have i48 := ei (d := 48) hb 2 (by kernel_rfl) rfl rfl (by simp)
    have i49 := ei (d := 49) hb 3 (by kernel_rfl) rfl rfl (by simp)
    have i50 := ei (d := 50) hb 4 (by kernel_rfl) rfl rfl (by simp)
    have i51 := ei (d := 51) hb 5 (by kernel_rfl) rfl rfl (by simp)
    have i52 := ei (d := 52) hb 6 (by kernel_rfl) rfl rfl (by simp)
    have i53 := ei (d := 53) hb 7 (by kernel_rfl) rfl rfl (by simp)
    have i54 := ei (d := 54) hb 8 (by kernel_rfl) rfl rfl (by simp)
    have i55 := ei (d := 55) hb 9 (by kernel_rfl) rfl rfl (by simp)
    have i56 := ei (d := 56) hb 10 (by kernel_rfl) rfl rfl (by simp)
    have i57 := ei (d := 57) hb 11 (by kernel_rfl) rfl rfl (by simp)
    have i58 := ei (d := 58) hb 12 (by kernel_rfl) rfl rfl (by simp)
    have i59 := ei (d := 59) hb 13 (by kernel_rfl) rfl rfl (by simp)
    have i60 := ei (d := 60) hb 14 (by kernel_rfl) rfl rfl (by simp)
    have i61 := ei (d := 61) hb 15 (by kernel_rfl) rfl rfl (by simp)
    have i62 := ei (d := 62) hb 16 (by kernel_rfl) rfl rfl (by simp)
    have i63 := ei (d := 63) hb 17 (by kernel_rfl) rfl rfl (by simp)
    have i64 := ei (d := 64) hb 18 (by kernel_rfl) rfl rfl (by simp)
    have i65 := ei (d := 65) hb 19 (by kernel_rfl) rfl rfl (by simp)
    have i66 := ei (d := 66) hb 20 (by kernel_rfl) rfl rfl (by simp)
    have i67 := ei (d := 67) hb 21 (by kernel_rfl) rfl rfl (by simp)
    have i68 := ei (d := 68) hb 22 (by kernel_rfl) rfl rfl (by simp)
    have i69 := ei (d := 69) hb 23 (by kernel_rfl) rfl rfl (by simp)
    have i70 := ei (d := 70) hb 24 (by kernel_rfl) rfl rfl (by simp)
    have i71 := ei (d := 71) hb 25 (by kernel_rfl) rfl rfl (by simp)
    have i72 := ei (d := 72) hb 26 (by kernel_rfl) rfl rfl (by simp)
    have i73 := ei (d := 73) hb 27 (by kernel_rfl) rfl rfl (by simp)
    clear hb
    refine And.intro ?_ (And.intro ?_ (And.intro ?_ (And.intro ?_ (And.intro ?_ (And.intro ?_ (And.intro ?_ (And.intro ?_ (And.intro ?_ (And.intro ?_ (And.intro ?_ (And.intro ?_ (And.intro ?_ (And.intro ?_ (And.intro ?_ (And.intro ?_ (And.intro ?_ (And.intro ?_ (And.intro ?_ (And.intro ?_ (And.intro ?_ (And.intro ?_ (And.intro ?_ (And.intro ?_ (And.intro ?_ (And.intro ?_ (And.intro ?_ (And.intro ?_ (And.intro ?_ (trivial)))))))))))))))))))))))))))))
    · intro hp K hK
      refine g_no rfl ?_
      exact st_move (.inl rfl) (e12) (hK _ _ rfl hG (Below.refl _ _))
    · intro hp K hK
      refine g_no rfl ?_
      have e46 : b.eval (.tmp 46) = _ := i46.trans (hp 0 (by kernel_rfl))
      exact st_builtin rfl (by first | (simp only [List.map_toArray, List.map_cons, List.map_nil, eval_const, e46]; done) | (simp only [List.map_toArray, List.map_cons, List.map_nil, eval_const, e46]; rfl)) (fun cs => b_len cs _) (hK _ _ rfl hG (Below.refl _ _))
    · intro hp K hK
      refine g_no rfl ?_
      have e47 : b.eval (.tmp 47) = _ := i47.trans (hp 1 (by kernel_rfl))
      exact st_bin rfl (e47) (eval_const _) b_lss (hK _ _ rfl hG (Below.refl _ _))
    · intro hp K hK
      refine g_no rfl ?_
      have e48 : b.eval (.tmp 48) = _ := i48.trans (hp 2 (by kernel_rfl))
      exact st_move (.inl rfl) (e48) (hK _ _ rfl hG (Below.refl _ _))
    · intro hp K hK
      refine g_is (j := 3) (want := false) (c := decide (((l).length : Int) < 1)) rfl (yielded_of (d := 49) rfl rfl (i49.trans (hp 3 (by kernel_rfl)))) (fun hb => ?_) (fun hb => hK _ _ (cond_no hb) hG (Below.refl _ _))
      exact st_move (.inl rfl) (e12) (hK _ _ (cond_yes hb).symm hG (Below.refl _ _))
    · intro hp K hK
      refine g_is (j := 3) (want := false) (c := decide (((l).length : Int) < 1)) rfl (yielded_of (d := 49) rfl rfl (i49.trans (hp 3 (by kernel_rfl)))) (fun hb => ?_) (fun hb => hK _ _ (cond_no hb) hG (Below.refl _ _))
      have e50 : b.eval (.tmp 50) = _ := i50.trans (hp 4 (by kernel_rfl))
      replace e50 := e50.trans (cond_yes hb)
      exact st_builtin rfl (by first | (simp only [List.map_toArray, List.map_cons, List.map_nil, eval_const, e50]; done) | (simp only [List.map_toArray, List.map_cons, List.map_nil, eval_const, e50]; rfl)) (fun cs => b_len cs _) (hK _ _ (cond_yes hb).symm hG (Below.refl _ _))
    · intro hp K hK
      refine g_is (j := 3) (want := false) (c := decide (((l).length : Int) < 1)) rfl (yielded_of (d := 49) rfl rfl (i49.trans (hp 3 (by kernel_rfl)))) (fun hb => ?_) (fun hb => hK _ _ (cond_no hb) hG (Below.refl _ _))
      have e51 : b.eval (.tmp 51) = _ := i51.trans (hp 5 (by kernel_rfl))
      replace e51 := e51.trans (cond_yes hb)
      exact st_bin rfl (e51) (eval_const _) b_gtr (hK _ _ (cond_yes hb).symm hG (Below.refl _ _))
    · intro hp K hK
      refine g_no rfl ?_
      have e49 : b.eval (.tmp 49) = _ := i49.trans (hp 3 (by kernel_rfl))
      have e52 : b.eval (.tmp 52) = _ := i52.trans (hp 6 (by kernel_rfl))
      exact st_pick rfl (e49) (by first | (rw [e52]; exact pick_or) | (rw [show b.eval (Operand.tmp 52) = _ from eval_const _]; exact pick_or)) (hK _ _ rfl hG (Below.refl _ _))
    · intro hp K hK
      refine g_no rfl ?_
      have e53 : b.eval (.tmp 53) = _ := i53.trans (hp 7 (by kernel_rfl))
      exact st_move (.inl rfl) (e53) (hK _ _ rfl hG (Below.refl _ _))
    · intro hp K hK
      refine g_is (j := 8) (want := false) (c := (decide (((l).length : Int) < 1)) || (decide (2 < ((l).length : Int)))) rfl (yielded_of (d := 54) rfl rfl (i54.trans (hp 8 (by kernel_rfl)))) (fun hb => ?_) (fun hb => hK _ _ (cond_no hb) hG (Below.refl _ _))
      exact st_move (.inl rfl) (e7) (hK _ _ (cond_yes hb).symm hG (Below.refl _ _))
    · intro hp K hK
      refine g_is (j := 8) (want := false) (c := (decide (((l).length : Int) < 1)) || (decide (2 < ((l).length : Int)))) rfl (yielded_of (d := 54) rfl rfl (i54.trans (hp 8 (by kernel_rfl)))) (fun hb => ?_) (fun hb => hK _ _ (cond_no hb) hG (Below.refl _ _))
      have e55 : b.eval (.tmp 55) = _ := i55.trans (hp 9 (by kernel_rfl))
      replace e55 := e55.trans (cond_yes hb)
      exact st_index rfl (e13) (e55) (ixa _ _ _ (Nat.lt_succ_of_le HD.out.2) _) (hK _ _ (cond_yes hb).symm hG (Below.refl _ _))
    · intro hp K hK
      refine g_is (j := 8) (want := false) (c := (decide (((l).length : Int) < 1)) || (decide (2 < ((l).length : Int)))) rfl (yielded_of (d := 54) rfl rfl (i54.trans (hp 8 (by kernel_rfl)))) (fun hb => ?_) (fun hb => hK _ _ (cond_no hb) hG (Below.refl _ _))
      have e56 : b.eval (.tmp 56) = _ := i56.trans (hp 10 (by kernel_rfl))
      replace e56 := e56.trans (cond_yes hb)
      exact st_load rfl (e56) (ld_cell 22 (by kernel_rfl) ((blk_cell hG.2 (0 + rd)).trans (by rw [Nat.zero_add]; exact arr_get _ (Nat.lt_succ_of_le HD.out.2)))) (hK _ _ (cond_yes hb).symm hG (Below.refl _ _))
    · intro hp K hK
      refine g_is (j := 8) (want := false) (c := (decide (((l).length : Int) < 1)) || (decide (2 < ((l).length : Int)))) rfl (yielded_of (d := 54) rfl rfl (i54.trans (hp 8 (by kernel_rfl)))) (fun hb => ?_) (fun hb => hK _ _ (cond_no hb) hG (Below.refl _ _))
      exact st_move (.inl rfl) (e0) (hK _ _ (cond_yes hb).symm hG (Below.refl _ _))
    · intro hp K hK
      refine g_is (j := 8) (want := false) (c := (decide (((l).length : Int) < 1)) || (decide (2 < ((l).length : Int)))) rfl (yielded_of (d := 54) rfl rfl (i54.trans (hp 8 (by kernel_rfl)))) (fun hb => ?_) (fun hb => hK _ _ (cond_no hb) hG (Below.refl _ _))
      have e58 : b.eval (.tmp 58) = _ := i58.trans (hp 12 (by kernel_rfl))
      replace e58 := e58.trans (cond_yes hb)
      exact st_conv rfl (e58) (cv _ _) (hK _ _ (cond_yes hb).symm hG (Below.refl _ _))
    · intro hp K hK
      refine g_is (j := 8) (want := false) (c := (decide (((l).length : Int) < 1)) || (decide (2 < ((l).length : Int)))) rfl (yielded_of (d := 54) rfl rfl (i54.trans (hp 8 (by kernel_rfl)))) (fun hb => ?_) (fun hb => hK _ _ (cond_no hb) hG (Below.refl _ _))
      have e57 : b.eval (.tmp 57) = _ := i57.trans (hp 11 (by kernel_rfl))
      replace e57 := e57.trans (cond_yes hb)
      have e59 : b.eval (.tmp 59) = _ := i59.trans (hp 13 (by kernel_rfl))
      replace e59 := e59.trans (cond_yes hb)
      exact st_bin rfl (e57) (e59) b_neq (hK _ _ (cond_yes hb).symm hG (Below.refl _ _))
    · intro hp K hK
      refine g_no rfl ?_
      have e54 : b.eval (.tmp 54) = _ := i54.trans (hp 8 (by kernel_rfl))
      have e60 : b.eval (.tmp 60) = _ := i60.trans (hp 14 (by kernel_rfl))
      exact st_pick rfl (e54) (by first | (rw [e60]; exact pick_or) | (rw [show b.eval (Operand.tmp 60) = _ from eval_const _]; exact pick_or)) (hK _ _ rfl hG (Below.refl _ _))
    · intro hp K hK
      refine g_no rfl ?_
      have e61 : b.eval (.tmp 61) = _ := i61.trans (hp 15 (by kernel_rfl))
      exact st_move (.inl rfl) (e61) (hK _ _ rfl hG (Below.refl _ _))
    · intro hp K hK
      refine g_is (j := 16) (want := false) (c := ((decide (((l).length : Int) < 1)) || (decide (2 < ((l).length : Int)))) || ((σ rd) != (IntKind.u32.wrap n))) rfl (yielded_of (d := 62) rfl rfl (i62.trans (hp 16 (by kernel_rfl)))) (fun hb => ?_) (fun hb => hK _ _ (cond_no hb) hG (Below.refl _ _))
      exact st_load rfl (e10) (ld_all 24 _ hG.1.2.1 Try.underlying24 rfl (by rw [arr_size]; kernel_rfl)) (hK _ _ (cond_yes hb).symm hG (Below.refl _ _))
    · intro hp K hK
      refine g_is (j := 16) (want := false) (c := ((decide (((l).length : Int) < 1)) || (decide (2 < ((l).length : Int)))) || ((σ rd) != (IntKind.u32.wrap n))) rfl (yielded_of (d := 62) rfl rfl (i62.trans (hp 16 (by kernel_rfl)))) (fun hb => ?_) (fun hb => hK _ _ (cond_no hb) hG (Below.refl _ _))
      exact st_load rfl (e13) (ld_all 24 _ hG.2 Try.underlying24 rfl (by rw [arr_size]; kernel_rfl)) (hK _ _ (cond_yes hb).symm hG (Below.refl _ _))
    · intro hp K hK
      refine g_is (j := 16) (want := false) (c := ((decide (((l).length : Int) < 1)) || (decide (2 < ((l).length : Int)))) || ((σ rd) != (IntKind.u32.wrap n))) rfl (yielded_of (d := 62) rfl rfl (i62.trans (hp 16 (by kernel_rfl)))) (fun hb => ?_) (fun hb => hK _ _ (cond_no hb) hG (Below.refl _ _))
      exact st_move (.inl rfl) (e7) (hK _ _ (cond_yes hb).symm hG (Below.refl _ _))
    · intro hp K hK
      refine g_is (j := 16) (want := false) (c := ((decide (((l).length : Int) < 1)) || (decide (2 < ((l).length : Int)))) || ((σ rd) != (IntKind.u32.wrap n))) rfl (yielded_of (d := 62) rfl rfl (i62.trans (hp 16 (by kernel_rfl)))) (fun hb => ?_) (fun hb => hK _ _ (cond_no hb) hG (Below.refl _ _))
      exact st_move (.inl rfl) (e7) (hK _ _ (cond_yes hb).symm hG (Below.refl _ _))
    · intro hp K hK
      refine g_is (j := 16) (want := false) (c := ((decide (((l).length : Int) < 1)) || (decide (2 < ((l).length : Int)))) || ((σ rd) != (IntKind.u32.wrap n))) rfl (yielded_of (d := 62) rfl rfl (i62.trans (hp 16 (by kernel_rfl)))) (fun hb => ?_) (fun hb => hK _ _ (cond_no hb) hG (Below.refl _ _))
      have e63 : b.eval (.tmp 63) = _ := i63.trans (hp 17 (by kernel_rfl))
      replace e63 := e63.trans (cond_yes hb)
      have e64 : b.eval (.tmp 64) = _ := i64.trans (hp 18 (by kernel_rfl))
      replace e64 := e64.trans (cond_yes hb)
      have e65 : b.eval (.tmp 65) = _ := i65.trans (hp 19 (by kernel_rfl))
      replace e65 := e65.trans (cond_yes hb)
      have e66 : b.eval (.tmp 66) = _ := i66.trans (hp 20 (by kernel_rfl))
      replace e66 := e66.trans (cond_yes hb)
      refine st_call rfl (by first | (simp only [List.map_toArray, List.map_cons, List.map_nil, eval_const, e63, e64, e65, e66]; done) | (simp only [List.map_toArray, List.map_cons, List.map_nil, eval_const, e63, e64, e65, e66]; rfl)) (by kernel_rfl) ?_
      refine (others_is ρ σ (rd : Int) (rd : Int) _ HO.out).mono ?_
      rintro e w' ⟨rfl, hb'⟩
      exact ⟨_, rfl, hK _ _ (cond_yes hb).symm ⟨⟨below_step hG.1.1 hb', blk_below hG.1.2.1 hb', Kd.R_below hG.1.2.2 hb'⟩, blk_below hG.2 hb'⟩ hb'⟩
    · intro hp K hK
      refine g_is (j := 16) (want := false) (c := ((decide (((l).length : Int) < 1)) || (decide (2 < ((l).length : Int)))) || ((σ rd) != (IntKind.u32.wrap n))) rfl (yielded_of (d := 62) rfl rfl (i62.trans (hp 16 (by kernel_rfl)))) (fun hb => ?_) (fun hb => hK _ _ (cond_no hb) hG (Below.refl _ _))
      have e67 : b.eval (.tmp 67) = _ := i67.trans (hp 21 (by kernel_rfl))
      replace e67 := e67.trans (cond_yes hb)
      exact st_un rfl (e67) u_not (hK _ _ (cond_yes hb).symm hG (Below.refl _ _))
    · intro hp K hK
      refine g_no rfl ?_
      have e62 : b.eval (.tmp 62) = _ := i62.trans (hp 16 (by kernel_rfl))
      have e68 : b.eval (.tmp 68) = _ := i68.trans (hp 22 (by kernel_rfl))
      exact st_pick rfl (e62) (by first | (rw [e68]; exact pick_or) | (rw [show b.eval (Operand.tmp 68) = _ from eval_const _]; exact pick_or)) (hK _ _ rfl hG (Below.refl _ _))
    · intro hp K hK
      refine g_no rfl ?_
      have e69 : b.eval (.tmp 69) = _ := i69.trans (hp 23 (by kernel_rfl))
      exact st_move (.inl rfl) (e69) (hK _ _ rfl hG (Below.refl _ _))
    · intro hp K hK
      refine g_is (j := 24) (want := false) (c := (((decide (((l).length : Int) < 1)) || (decide (2 < ((l).length : Int)))) || ((σ rd) != (IntKind.u32.wrap n))) || (!true)) rfl (yielded_of (d := 70) rfl rfl (i70.trans (hp 24 (by kernel_rfl)))) (fun hb => ?_) (fun hb => hK _ _ (cond_no hb) hG (Below.refl _ _))
      exact st_move (.inl rfl) (e12) (hK _ _ (cond_yes hb).symm hG (Below.refl _ _))
    · intro hp K hK
      refine g_is (j := 24) (want := false) (c := (((decide (((l).length : Int) < 1)) || (decide (2 < ((l).length : Int)))) || ((σ rd) != (IntKind.u32.wrap n))) || (!true)) rfl (yielded_of (d := 70) rfl rfl (i70.trans (hp 24 (by kernel_rfl)))) (fun hb => ?_) (fun hb => hK _ _ (cond_no hb) hG (Below.refl _ _))
      have e71 : b.eval (.tmp 71) = _ := i71.trans (hp 25 (by kernel_rfl))
      replace e71 := e71.trans (cond_yes hb)
      refine st_call rfl (by first | (simp only [List.map_toArray, List.map_cons, List.map_nil, eval_const, e71]; done) | (simp only [List.map_toArray, List.map_cons, List.map_nil, eval_const, e71]; rfl)) (by kernel_rfl) ?_
      refine (pintlelaw12_can.calls (l.length + 13) A c l true _ (Kd.R_reads' hG.1.2.2).2.2 HC.out (can_is l (Nat.le_trans HLEN.out.2 (by decide)) (fun x hx => (HIN.out x hx).2))).mono ?_
      rintro e w' ⟨rfl, hb'⟩
      exact ⟨_, rfl, hK _ _ (cond_yes hb).symm ⟨⟨below_step hG.1.1 hb', blk_below hG.1.2.1 hb', Kd.R_below hG.1.2.2 hb'⟩, blk_below hG.2 hb'⟩ hb'⟩
    · intro hp K hK
      refine g_is (j := 24) (want := false) (c := (((decide (((l).length : Int) < 1)) || (decide (2 < ((l).length : Int)))) || ((σ rd) != (IntKind.u32.wrap n))) || (!true)) rfl (yielded_of (d := 70) rfl rfl (i70.trans (hp 24 (by kernel_rfl)))) (fun hb => ?_) (fun hb => hK _ _ (cond_no hb) hG (Below.refl _ _))
      have e72 : b.eval (.tmp 72) = _ := i72.trans (hp 26 (by kernel_rfl))
      replace e72 := e72.trans (cond_yes hb)
      exact st_un rfl (e72) u_not (hK _ _ (cond_yes hb).symm hG (Below.refl _ _))
    · intro hp K hK
      refine g_no rfl ?_
      have e70 : b.eval (.tmp 70) = _ := i70.trans (hp 24 (by kernel_rfl))
      have e73 : b.eval (.tmp 73) = _ := i73.trans (hp 27 (by kernel_rfl))
      exact st_pick rfl (e70) (by first | (rw [e73]; exact pick_or) | (rw [show b.eval (Operand.tmp 73) = _ from eval_const _]; exact pick_or)) (hK _ _ rfl hG (Below.refl _ _))
  intro vs W hG hp b hb
  have q28 : vs 28 = _ := hp 28 (by decide)
  clear hp
  simp only [fill, Act.put, List.append_eq, List.cons_append, List.nil_append, List.take_succ_cons, List.take_zero, List.setIfInBounds_toArray, List.set_cons_succ, List.set_cons_zero, Nat.reduceAdd, Nat.zero_add, q28] at hb
  subst hb
  refine wpList_nil ?_
  clear q28
  refine HK12.out _ _ ?_
  clear HK12
  clear hG2
  have hc : (((((decide (((l).length : Int) < 1)) || (decide (2 < ((l).length : Int)))) || ((σ rd) != (IntKind.u32.wrap n))) || (!true)) || (!true)) = false := by
    have h1 := HLEN.out
    have h2 : σ rd = IntKind.u32.wrap n := by rw [Hσ.out, if_neg (by have := HD.out; omega), if_pos rfl, IntKind.wrap_u32]
    have h3 : decide ((l.length : Int) < 1) = false := decide_eq_false (by omega)
    have h4 : decide (2 < (l.length : Int)) = false := decide_eq_false (by omega)
    rw [h2, h3, h4]
    simp
  rw [hc]
  clear hc
  apply wp_cond_false rfl
  apply wp_skip
  simp only [Exit.then]
  refine HK11.out _ _ ?_
  clear HK11
  apply wp_seq_k
  intro K13 hK13
  have HK13 := Lib.hid hK13
  clear hK13
  apply wp_seq_k
  intro K14 hK14
  have HK14 := Lib.hid hK14
  clear hK14
  refine wp_listed (R := fun W W' => Below W.heap.size W W') 3 [.val (.int .i64 (by_ : Int)), .val (.int .i64 (rs : Int)), .val (.bool ((by_ : Int) == (rs : Int)))] (fun W => (Below w.heap.size w W ∧ W.heap[gw]? = some (.cells (arr ρ) 24 (0, 0)) ∧ Kd.R k38 38 W w.heap.size (fun _ => True) (.slice A l.length c) l) ∧ W.heap[gn]? = some (.cells (arr σ) 24 (0, 0))) (by kernel_rfl) hG ?_ ?_
  · intro vs W hG b hb
    have e8 : b.eval (.tmp 8) = .int .i64 (rs : Int) := eo hb (by kernel_rfl)
    have e9 : b.eval (.tmp 9) = .int .i64 (by_ : Int) := eo hb (by kernel_rfl)
    have i75 := ei (d := 75) hb 0 (by kernel_rfl) rfl rfl (by simp)
    have i76 := ei (d := 76) hb 1 (by kernel_rfl) rfl rfl (by simp)
    clear hb
    refine And.intro ?_ (And.intro ?_ (And.intro ?_ (trivial)))
    · intro hp K hK
      refine g_no rfl ?_
      exact st_move (.inl rfl) (e9) (hK _ _ rfl hG (Below.refl _ _))
    · intro hp K hK
      refine g_no rfl ?_
      exact st_move (.inl rfl) (e8) (hK _ _ rfl hG (Below.refl _ _))
    · intro hp K hK
      refine g_no rfl ?_
      have e75 : b.eval (.tmp 75) = _ := i75.trans (hp 0 (by kernel_rfl))
      have e76 : b.eval (.tmp 76) = _ := i76.trans (hp 1 (by kernel_rfl))
      exact st_bin rfl (e75) (e76) b_eql (hK _ _ rfl hG (Below.refl _ _))
  intro vs W hG hp b hb
  have q2 : vs 2 = _ := hp 2 (by decide)
  clear hp
  simp only [fill, Act.put, List.append_eq, List.cons_append, List.nil_append, List.take_succ_cons, List.take_zero, List.setIfInBounds_toArray, List.set_cons_succ, List.set_cons_zero, Nat.reduceAdd, Nat.zero_add, q2] at hb
  subst hb
  refine wpList_nil ?_
  clear q2
  refine HK14.out _ _ ?_
  clear HK14
  refine wp_cond_split rfl (fun hlt => ?_) (fun hlt => ?_)
  · have he : by_ = rs := by have := eq_of_beq hlt; omega
    clear hlt
    subst he
    apply wp_seq_k
    intro K15 hK15
    have HK15 := Lib.hid hK15
    clear hK15
    have hadd : pseudo_Add.f 7 (rd : Int) (by_ : Int) n (by_ : Int) = some ([] : List S38) := by rw [Go.Proofs.Yteglbikbnlebpaa.Pure.add_is _ _ _ _ HN.out.1 HN.out.2, add_same]
    refine wp_listed (R := fun W W' => Below W.heap.size W W') 11 [.val (.int .i64 (rd : Int)), .val (.int .i64 (by_ : Int)), .val (.int .i32 n), .val (.int .i64 (by_ : Int)), rowSpec w.heap.size (([] : List S38)), .val (.int .i64 ((([] : List S38)).length : Int)), .val (.bool (((([] : List S38)).length : Int) == 0)), .val (.bool (((([] : List S38)).length : Int) == 0)), .val ((bif ((((([] : List S38)).length : Int) == 0) == true) then (.bool true) else undef)), .val (.bool ((((([] : List S38)).length : Int) == 0) && true)), .val (.bool ((((([] : List S38)).length : Int) == 0) && true))] (fun W => (Below w.heap.size w W ∧ W.heap[gw]? = some (.cells (arr ρ) 24 (0, 0)) ∧ Kd.R k38 38 W w.heap.size (fun _ => True) (.slice A l.length c) l) ∧ W.heap[gn]? = some (.cells (arr σ) 24 (0, 0))) (by kernel_rfl) hG ?_ ?_
    · intro vs W hG b hb
      have e0 : b.eval (.tmp 0) = .int .i32 n := eo hb (by kernel_rfl)
      have e7 : b.eval (.tmp 7) = .int .i64 (rd : Int) := eo hb (by kernel_rfl)
      have e8 : b.eval (.tmp 8) = .int .i64 (by_ : Int) := eo hb (by kernel_rfl)
      have e9 : b.eval (.tmp 9) = .int .i64 (by_ : Int) := eo hb (by kernel_rfl)
      have i78 := ei (d := 78) hb 0 (by kernel_rfl) rfl rfl (by simp)
      have i79 := ei (d := 79) hb 1 (by kernel_rfl) rfl rfl (by simp)
      have i80 := ei (d := 80) hb 2 (by kernel_rfl) rfl rfl (by simp)
      have i81 := ei (d := 81) hb 3 (by kernel_rfl) rfl rfl (by simp)
      have i82 := ei (d := 82) hb 4 (by kernel_rfl) rfl rfl (by simp)
      have i83 := ei (d := 83) hb 5 (by kernel_rfl) rfl rfl (by simp)
      have i84 := ei (d := 84) hb 6 (by kernel_rfl) rfl rfl (by simp)
      have i85 := ei (d := 85) hb 7 (by kernel_rfl) rfl rfl (by simp)
      have i86 := ei (d := 86) hb 8 (by kernel_rfl) rfl rfl (by simp)
      have i87 := ei (d := 87) hb 9 (by kernel_rfl) rfl rfl (by simp)
      clear hb
      refine And.intro ?_ (And.intro ?_ (And.intro ?_ (And.intro ?_ (And.intro ?_ (And.intro ?_ (And.intro ?_ (And.intro ?_ (And.intro ?_ (And.intro ?_ (And.intro ?_ (trivial)))))))))))
      · intro hp K hK
        refine g_no rfl ?_
        exact st_move (.inl rfl) (e7) (hK _ _ rfl hG (Below.refl _ _))
      · intro hp K hK
        refine g_no rfl ?_
        exact st_move (.inl rfl) (e8) (hK _ _ rfl hG (Below.refl _ _))
      · intro hp K hK
        refine g_no rfl ?_
        exact st_move (.inl rfl) (e0) (hK _ _ rfl hG (Below.refl _ _))
      · intro hp K hK
        refine g_no rfl ?_
        exact st_move (.inl rfl) (e9) (hK _ _ rfl hG (Below.refl _ _))
      · intro hp K hK
        refine g_no rfl ?_
        have e78 : b.eval (.tmp 78) = _ := i78.trans (hp 0 (by kernel_rfl))
        have e79 : b.eval (.tmp 79) = _ := i79.trans (hp 1 (by kernel_rfl))
        have e80 : b.eval (.tmp 80) = _ := i80.trans (hp 2 (by kernel_rfl))
        have e81 : b.eval (.tmp 81) = _ := i81.trans (hp 3 (by kernel_rfl))
        refine st_call rfl (by first | (simp only [List.map_toArray, List.map_cons, List.map_nil, eval_const, e78, e79, e80, e81]; done) | (simp only [List.map_toArray, List.map_cons, List.map_nil, eval_const, e78, e79, e80, e81]; rfl)) (by kernel_rfl) ?_
        refine (pseudo_Add.calls 7 _ _ _ _ ([] : List S38) _ hadd).mono ?_
        rintro e w' ⟨v, rfl, hR, hb'⟩; obtain ⟨A, c, rfl, hc, hR⟩ := row_of hR hG.1.1.size
        exact ⟨_, rfl, hK _ _ ⟨_, _, rfl, hc, hR⟩ ⟨⟨below_step hG.1.1 hb', blk_below hG.1.2.1 hb', Kd.R_below hG.1.2.2 hb'⟩, blk_below hG.2 hb'⟩ hb'⟩
      · intro hp K hK
        refine g_no rfl ?_
        have q4 : ∃ A c, (vs 4) = .slice A (([] : List S38)).length c ∧ (([] : List S38)).length ≤ c ∧ Kd.R k38 38 W w.heap.size (fun _ => True) (.slice A (([] : List S38)).length c) (([] : List S38)) := hp 4 (by kernel_rfl)
        obtain ⟨A, c, hv, hc, hR⟩ := q4
        have e82 := i82.trans hv
        exact st_builtin rfl (by first | (simp only [List.map_toArray, List.map_cons, List.map_nil, eval_const, e82]; done) | (simp only [List.map_toArray, List.map_cons, List.map_nil, eval_const, e82]; rfl)) (fun cs => b_len cs _) (hK _ _ rfl hG (Below.refl _ _))
      · intro hp K hK
        refine g_no rfl ?_
        have e83 : b.eval (.tmp 83) = _ := i83.trans (hp 5 (by kernel_rfl))
        exact st_bin rfl (e83) (eval_const _) b_eql (hK _ _ rfl hG (Below.refl _ _))
      · intro hp K hK
        refine g_no rfl ?_
        have e84 : b.eval (.tmp 84) = _ := i84.trans (hp 6 (by kernel_rfl))
        exact st_move (.inl rfl) (e84) (hK _ _ rfl hG (Below.refl _ _))
      · intro hp K hK
        refine g_is (j := 7) (want := true) (c := ((([] : List S38)).length : Int) == 0) rfl (yielded_of (d := 85) rfl rfl (i85.trans (hp 7 (by kernel_rfl)))) (fun hb => ?_) (fun hb => hK _ _ (cond_no hb) hG (Below.refl _ _))
        refine st_call rfl (by first | (simp only [List.map_toArray, List.map_cons, List.map_nil, eval_const]; done) | (simp only [List.map_toArray, List.map_cons, List.map_nil, eval_const]; rfl)) (by kernel_rfl) ?_
        refine (pintlelaw12_lives.calls 5 true _ (Go.Proofs.Yteglbikbnlebpaa.Pure.lives_is 5 (Nat.le_refl _))).mono ?_
        rintro e w' ⟨rfl, hb'⟩
        exact ⟨_, rfl, hK _ _ (cond_yes hb).symm ⟨⟨below_step hG.1.1 hb', blk_below hG.1.2.1 hb', Kd.R_below hG.1.2.2 hb'⟩, blk_below hG.2 hb'⟩ hb'⟩
      · intro hp K hK
        refine g_no rfl ?_
        have e85 : b.eval (.tmp 85) = _ := i85.trans (hp 7 (by kernel_rfl))
        have e86 : b.eval (.tmp 86) = _ := i86.trans (hp 8 (by kernel_rfl))
        exact st_pick rfl (e85) (by first | (rw [e86]; exact pick_and) | (rw [show b.eval (Operand.tmp 86) = _ from eval_const _]; exact pick_and)) (hK _ _ rfl hG (Below.refl _ _))
      · intro hp K hK
        refine g_no rfl ?_
        have e87 : b.eval (.tmp 87) = _ := i87.trans (hp 9 (by kernel_rfl))
        exact st_move (.inr rfl) (e87) (hK _ _ rfl hG (Below.refl _ _))
    intro vs W hG hp b hb
    have q4 : ∃ A c, (vs 4) = .slice A (([] : List S38)).length c ∧ (([] : List S38)).length ≤ c ∧ Kd.R k38 38 W w.heap.size (fun _ => True) (.slice A (([] : List S38)).length c) (([] : List S38)) := hp 4 (by decide)
    have q10 : vs 10 = _ := hp 10 (by decide)
    clear hp
    simp only [fill, Act.put, List.append_eq, List.cons_append, List.nil_append, List.take_succ_cons, List.take_zero, List.setIfInBounds_toArray, List.set_cons_succ, List.set_cons_zero, Nat.reduceAdd, Nat.zero_add, q10] at hb
    subst hb
    refine wpList_nil ?_
    clear q10
    refine HK15.out _ _ ?_
    clear HK15
    clear q4
    have HG := Lib.hid hG.1.1
    clear hG
    go_wp2
    go_ret
    exact ⟨rfl, HG.out⟩
  have hne : by_ ≠ rs := by intro h; subst h; simp at hlt
  clear hlt
  apply wp_skip
  simp only [Exit.then]
  refine HK13.out _ _ ?_
  clear HK13
  apply wp_seq_k
  intro K16 hK16
  have HK16 := Lib.hid hK16
  clear hK16
  have hadd := Go.Proofs.Yteglbikbnlebpaa.Pure.add_is (rd : Int) (rs : Int) n (by_ : Int) HN.out.1 HN.out.2
  have hin2 := add_in rd rs by_ n HD.out HS.out HB.out HN.out
  have hlen2 := add_len rd rs by_ n
  have hrun2 := runs_add ρ rd rs by_ n HD.out HS.out HB.out hne HZ.out HI.out
  generalize Go.Proofs.Yteglbikbnlebpaa.Pure.addL (rd : Int) (rs : Int) n (by_ : Int) = l2 at hadd hin2 hlen2 hrun2
  have HIN2 := Lib.hid hin2
  have HLEN2 := Lib.hid hlen2
  have HRUN2 := Lib.hid hrun2
  clear hin2 hlen2 hrun2 hne
  refine wp_listed (R := fun W W' => Below W.heap.size W W') 6 [.val (.int .i64 (rd : Int)), .val (.int .i64 (rs : Int)), .val (.int .i32 n), .val (.int .i64 (by_ : Int)), rowSpec w.heap.size (l2), rowSpec w.heap.size (l2)] (fun W => (Below w.heap.size w W ∧ W.heap[gw]? = some (.cells (arr ρ) 24 (0, 0))) ∧ W.heap[gn]? = some (.cells (arr σ) 24 (0, 0))) (by kernel_rfl) ⟨⟨hG.1.1, hG.1.2.1⟩, hG.2⟩ ?_ ?_
  · intro vs W hG b hb
    have e0 : b.eval (.tmp 0) = .int .i32 n := eo hb (by kernel_rfl)
    have e7 : b.eval (.tmp 7) = .int .i64 (rd : Int) := eo hb (by kernel_rfl)
    have e8 : b.eval (.tmp 8) = .int .i64 (rs : Int) := eo hb (by kernel_rfl)
    have e9 : b.eval (.tmp 9) = .int .i64 (by_ : Int) := eo hb (by kernel_rfl)
    have i88 := ei (d := 88) hb 0 (by kernel_rfl) rfl rfl (by simp)
    have i89 := ei (d := 89) hb 1 (by kernel_rfl) rfl rfl (by simp)
    have i90 := ei (d := 90) hb 2 (by kernel_rfl) rfl rfl (by simp)
    have i91 := ei (d := 91) hb 3 (by kernel_rfl) rfl rfl (by simp)
    have i92 := ei (d := 92) hb 4 (by kernel_rfl) rfl rfl (by simp)
    clear hb
    refine And.intro ?_ (And.intro ?_ (And.intro ?_ (And.intro ?_ (And.intro ?_ (And.intro ?_ (trivial))))))
    · intro hp K hK
      refine g_no rfl ?_
      exact st_move (.inl rfl) (e7) (hK _ _ rfl hG (Below.refl _ _))
    · intro hp K hK
      refine g_no rfl ?_
      exact st_move (.inl rfl) (e8) (hK _ _ rfl hG (Below.refl _ _))
    · intro hp K hK
      refine g_no rfl ?_
      exact st_move (.inl rfl) (e0) (hK _ _ rfl hG (Below.refl _ _))
    · intro hp K hK
      refine g_no rfl ?_
      exact st_move (.inl rfl) (e9) (hK _ _ rfl hG (Below.refl _ _))
    · intro hp K hK
      refine g_no rfl ?_
      have e88 : b.eval (.tmp 88) = _ := i88.trans (hp 0 (by kernel_rfl))
      have e89 : b.eval (.tmp 89) = _ := i89.trans (hp 1 (by kernel_rfl))
      have e90 : b.eval (.tmp 90) = _ := i90.trans (hp 2 (by kernel_rfl))
      have e91 : b.eval (.tmp 91) = _ := i91.trans (hp 3 (by kernel_rfl))
      refine st_call rfl (by first | (simp only [List.map_toArray, List.map_cons, List.map_nil, eval_const, e88, e89, e90, e91]; done) | (simp only [List.map_toArray, List.map_cons, List.map_nil, eval_const, e88, e89, e90, e91]; rfl)) (by kernel_rfl) ?_
      refine (pseudo_Add.calls 7 _ _ _ _ l2 _ hadd).mono ?_
      rintro e w' ⟨v, rfl, hR, hb'⟩; obtain ⟨A, c, rfl, hc, hR⟩ := row_of hR hG.1.1.size
      exact ⟨_, rfl, hK _ _ ⟨_, _, rfl, hc, hR⟩ ⟨⟨below_step hG.1.1 hb', blk_below hG.1.2 hb'⟩, blk_below hG.2 hb'⟩ hb'⟩
    · intro hp K hK
      refine g_no rfl ?_
      have q4 : ∃ A c, (vs 4) = .slice A (l2).length c ∧ (l2).length ≤ c ∧ Kd.R k38 38 W w.heap.size (fun _ => True) (.slice A (l2).length c) (l2) := hp 4 (by kernel_rfl)
      obtain ⟨A, c, hv, hc, hR⟩ := q4
      have e92 := i92.trans hv
      exact st_move (.inr rfl) (e92) (hK _ _ ⟨_, _, rfl, hc, hR⟩ hG (Below.refl _ _))
  intro vs W hG hp b hb
  have q0 : vs 0 = _ := hp 0 (by decide)
  have q1 : vs 1 = _ := hp 1 (by decide)
  have q2 : vs 2 = _ := hp 2 (by decide)
  have q3 : vs 3 = _ := hp 3 (by decide)
  have q4 : ∃ A c, (vs 4) = .slice A (l2).length c ∧ (l2).length ≤ c ∧ Kd.R k38 38 W w.heap.size (fun _ => True) (.slice A (l2).length c) (l2) := hp 4 (by decide)
  have q5 : ∃ A c, (vs 5) = .slice A (l2).length c ∧ (l2).length ≤ c ∧ Kd.R k38 38 W w.heap.size (fun _ => True) (.slice A (l2).length c) (l2) := hp 5 (by decide)
  clear hp
  simp only [fill, Act.put, List.append_eq, List.cons_append, List.nil_append, List.take_succ_cons, List.take_zero, List.setIfInBounds_toArray, List.set_cons_succ, List.set_cons_zero, Nat.reduceAdd, Nat.zero_add, q0, q1, q2, q3] at hb
  subst hb
  refine wpList_nil ?_
  clear q0 q1 q2 q3
  clear q4 hadd HC HLEN HIN
  obtain ⟨A2, c2, hv, hc, hR⟩ := q5
  rw [hv]
  clear hv
  have HC := Lib.hid hc
  clear hc
  refine HK16.out _ _ ?_
  clear HK16
  apply wp_seq_k
  intro K17 hK17
  have HK17 := Lib.hid hK17
  clear hK17
  obtain ⟨τ, hτ⟩ : ∃ τ, runs ρ l2 = τ := ⟨_, rfl⟩
  have HT := Lib.hid hτ
  clear hτ
  refine wp_listed (R := fun W W' => Below W.heap.size W W') 3 [.val (.agg (arr ρ)), .val (.slice A2 l2.length c2), .val (.agg (arr τ))] (fun W => (Below w.heap.size w W ∧ W.heap[gw]? = some (.cells (arr ρ) 24 (0, 0)) ∧ Kd.R k38 38 W w.heap.size (fun _ => True) (.slice A2 l2.length c2) l2) ∧ W.heap[gn]? = some (.cells (arr σ) 24 (0, 0))) (by kernel_rfl) ⟨⟨hG.1.1, hG.1.2, hR⟩, hG.2⟩ ?_ ?_
  · intro vs W hG b hb
    have e10 : b.eval (.tmp 10) = .pointer (some ⟨gw, 0, none⟩) := eo hb (by kernel_rfl)
    have e12 : b.eval (.tmp 12) = .slice A2 l2.length c2 := eo hb (by kernel_rfl)
    have i93 := ei (d := 93) hb 0 (by kernel_rfl) rfl rfl (by simp)
    have i94 := ei (d := 94) hb 1 (by kernel_rfl) rfl rfl (by simp)
    clear hb
    refine And.intro ?_ (And.intro ?_ (And.intro ?_ (trivial)))
    · intro hp K hK
      refine g_no rfl ?_
      exact st_load rfl (e10) (ld_all 24 _ hG.1.2.1 Try.underlying24 rfl (by rw [arr_size]; kernel_rfl)) (hK _ _ rfl hG (Below.refl _ _))
    · intro hp K hK
      refine g_no rfl ?_
      exact st_move (.inl rfl) (e12) (hK _ _ rfl hG (Below.refl _ _))
    · intro hp K hK
      refine g_no rfl ?_
      have e93 : b.eval (.tmp 93) = _ := i93.trans (hp 0 (by kernel_rfl))
      have e94 : b.eval (.tmp 94) = _ := i94.trans (hp 1 (by kernel_rfl))
      refine st_call rfl (by first | (simp only [List.map_toArray, List.map_cons, List.map_nil, eval_const, e93, e94]; done) | (simp only [List.map_toArray, List.map_cons, List.map_nil, eval_const, e93, e94]; rfl)) (by kernel_rfl) ?_
      refine (HT.out ▸ does_is ρ A2 c2 l2 _ (Nat.le_trans HLEN2.out (by decide)) (fun x hx => (HIN2.out x hx).1) (Kd.R_reads' hG.1.2.2).2.2).mono ?_
      rintro e w' ⟨rfl, hb'⟩
      exact ⟨_, rfl, hK _ _ rfl ⟨⟨below_step hG.1.1 hb', blk_below hG.1.2.1 hb', Kd.R_below hG.1.2.2 hb'⟩, blk_below hG.2 hb'⟩ hb'⟩
  intro vs W hG hp b hb
  have q0 : vs 0 = _ := hp 0 (by decide)
  have q1 : vs 1 = _ := hp 1 (by decide)
  have q2 : vs 2 = _ := hp 2 (by decide)
  clear hp
  simp only [fill, Act.put, List.append_eq, List.cons_append, List.nil_append, List.take_succ_cons, List.take_zero, List.setIfInBounds_toArray, List.set_cons_succ, List.set_cons_zero, Nat.reduceAdd, Nat.zero_add, q0, q1, q2] at hb
  subst hb
  simp only [List.append_eq, List.cons_append, List.nil_append, List.drop_succ_cons, List.drop_zero]
  clear q0 q1 q2
  clear hR
  refine wpList_store_mid rfl 24 (.tmp 13) (.tmp 95) rfl gn 0 (arr τ) rfl rfl (by rw [arr_size]; have := blk_there hG.2; rwa [arr_size] at this) (by rw [arr_size]; kernel_rfl) (by kernel_rfl) ?_
  refine wpList_nil ?_
  simp only [Act.put]
  have hG2 : (Below w.heap.size w (W.setCells gn 0 (arr τ).toList) ∧ (W.setCells gn 0 (arr τ).toList).heap[gw]? = some (.cells (arr ρ) 24 (0, 0)) ∧ Kd.R k38 38 (W.setCells gn 0 (arr τ).toList) w.heap.size (fun _ => True) (.slice A2 l2.length c2) l2) ∧ (W.setCells gn 0 (arr τ).toList).heap[gn]? = some (.cells (arr τ) 24 (0, 0)) := ⟨⟨below_sets _ 0 w W gn hG.1.1 (by omega), blk_puts_far hG.1.2.1 (by omega), row_sets hG.1.2.2 hG.2⟩, blk_puts (cs' := arr τ) hG.2 ((arr_size _).trans (arr_size _).symm)⟩
  clear hG
  generalize W.setCells gn 0 (arr τ).toList = V at hG2 ⊢
  clear W
  refine HK17.out _ _ ?_
  clear HK17
  apply wp_seq_k
  intro K18 hK18
  have HK18 := Lib.hid hK18
  clear hK18
  have hrun := HRUN2.out
  rw [HT.out] at hrun
  have hoth : ∀ i : Nat, i < 32 → (i : Int) ≠ (rd : Int) → (i : Int) ≠ (by_ : Int) → ρ i = τ i := fun i _ h1 h2 => (hrun.2 i (by omega) (by omega)).symm
  have HO2 := Lib.hid hoth
  have HR2 := Lib.hid hrun.1
  clear hoth hrun HRUN2 HT
  refine wp_drawn (R := fun W W' => Below W.heap.size W W') 25 [.val (.int .i64 (rd : Int)), .val (.pointer (some ⟨gn, 0 + rd, none⟩)), .val (.int .u32 (τ rd)), .val (.int .i64 (rs : Int)), .val (.pointer (some ⟨gw, 0 + rs, none⟩)), .val (.int .u32 (ρ rs)), .val (.int .i32 n), .val (.int .u32 (IntKind.u32.wrap n)), .val (.int .u32 ((ρ rs + n) % 4294967296)), .val (.bool ((τ rd) == ((ρ rs + n) % 4294967296))), .val (.bool ((τ rd) == ((ρ rs + n) % 4294967296))), .val ((bif (((τ rd) == ((ρ rs + n) % 4294967296)) == true) then (.agg (arr ρ)) else undef)), .val ((bif (((τ rd) == ((ρ rs + n) % 4294967296)) == true) then (.agg (arr τ)) else undef)), .val ((bif (((τ rd) == ((ρ rs + n) % 4294967296)) == true) then (.int .i64 (rd : Int)) else undef)), .val ((bif (((τ rd) == ((ρ rs + n) % 4294967296)) == true) then (.int .i64 (by_ : Int)) else undef)), .val ((bif (((τ rd) == ((ρ rs + n) % 4294967296)) == true) then (.bool true) else undef)), .val (.bool (((τ rd) == ((ρ rs + n) % 4294967296)) && true)), .val (.bool (((τ rd) == ((ρ rs + n) % 4294967296)) && true)), .val ((bif ((((τ rd) == ((ρ rs + n) % 4294967296)) && true) == true) then (.slice A2 l2.length c2) else undef)), .val ((bif ((((τ rd) == ((ρ rs + n) % 4294967296)) && true) == true) then (.bool true) else undef)), .val (.bool ((((τ rd) == ((ρ rs + n) % 4294967296)) && true) && true)), .val (.bool ((((τ rd) == ((ρ rs + n) % 4294967296)) && true) && true)), .val ((bif (((((τ rd) == ((ρ rs + n) % 4294967296)) && true) && true) == true) then (.bool true) else undef)), .val (.bool (((((τ rd) == ((ρ rs + n) % 4294967296)) && true) && true) && true)), .val (.bool (((((τ rd) == ((ρ rs + n) % 4294967296)) && true) && true) && true))] (fun W => (Below w.heap.size w W ∧ W.heap[gw]? = some (.cells (arr ρ) 24 (0, 0)) ∧ Kd.R k38 38 W w.heap.size (fun _ => True) (.slice A2 l2.length c2) l2) ∧ W.heap[gn]? = some (.cells (arr τ) 24 (0, 0))) rfl (by kernel_rfl) ⟨⟨hG2.1.1.drew, hG2.1.2.1, Kd.R_drew hG2.1.2.2⟩, hG2.2⟩ ?_ ?_
  · intro vs W hG b hb
    have e0 : b.eval (.tmp 0) = .int .i32 n := eo hb (by kernel_rfl)
    have e7 : b.eval (.tmp 7) = .int .i64 (rd : Int) := eo hb (by kernel_rfl)
    have e8 : b.eval (.tmp 8) = .int .i64 (rs : Int) := eo hb (by kernel_rfl)
    have e9 : b.eval (.tmp 9) = .int .i64 (by_ : Int) := eo hb (by kernel_rfl)
    have e10 : b.eval (.tmp 10) = .pointer (some ⟨gw, 0, none⟩) := eo hb (by kernel_rfl)
    have e12 : b.eval (.tmp 12) = .slice A2 l2.length c2 := eo hb (by kernel_rfl)
    have e13 : b.eval (.tmp 13) = .pointer (some ⟨gn, 0, none⟩) := eo hb (by kernel_rfl)
    have i96 := ei (d := 96) hb 0 (by kernel_rfl) rfl rfl (by simp)
    have i97 := ei (d := 97) hb 1 (by kernel_rfl) rfl rfl (by simp)
    have i98 := ei (d := 98) hb 2 (by kernel_rfl) rfl rfl (by simp)
    have i99 := ei (d := 99) hb 3 (by kernel_rfl) rfl rfl (by simp)
    have i100 := ei (d := 100) hb 4 (by kernel_rfl) rfl rfl (by simp)
    have i101 := ei (d := 101) hb 5 (by kernel_rfl) rfl rfl (by simp)
    have i102 := ei (d := 102) hb 6 (by kernel_rfl) rfl rfl (by simp)
    have i103 := ei (d := 103) hb 7 (by kernel_rfl) rfl rfl (by simp)
    have i104 := ei (d := 104) hb 8 (by kernel_rfl) rfl rfl (by simp)
    have i105 := ei (d := 105) hb 9 (by kernel_rfl) rfl rfl (by simp)
    have i106 := ei (d := 106) hb 10 (by kernel_rfl) rfl rfl (by simp)
    have i107 := ei (d := 107) hb 11 (by kernel_rfl) rfl rfl (by simp)
    have i108 := ei (d := 108) hb 12 (by kernel_rfl) rfl rfl (by simp)
    have i109 := ei (d := 109) hb 13 (by kernel_rfl) rfl rfl (by simp)
    have i110 := ei (d := 110) hb 14 (by kernel_rfl) rfl rfl (by simp)
    have i111 := ei (d := 111) hb 15 (by kernel_rfl) rfl rfl (by simp)
    have i112 := ei (d := 112) hb 16 (by kernel_rfl) rfl rfl (by simp)
    have i113 := ei (d := 113) hb 17 (by kernel_rfl) rfl rfl (by simp)
    have i114 := ei (d := 114) hb 18 (by kernel_rfl) rfl rfl (by simp)
    have i115 := ei (d := 115) hb 19 (by kernel_rfl) rfl rfl (by simp)
    have i116 := ei (d := 116) hb 20 (by kernel_rfl) rfl rfl (by simp)
    have i117 := ei (d := 117) hb 21 (by kernel_rfl) rfl rfl (by simp)
    have i118 := ei (d := 118) hb 22 (by kernel_rfl) rfl rfl (by simp)
    have i119 := ei (d := 119) hb 23 (by kernel_rfl) rfl rfl (by simp)
    clear hb
    refine And.intro ?_ (And.intro ?_ (And.intro ?_ (And.intro ?_ (And.intro ?_ (And.intro ?_ (And.intro ?_ (And.intro ?_ (And.intro ?_ (And.intro ?_ (And.intro ?_ (And.intro ?_ (And.intro ?_ (And.intro ?_ (And.intro ?_ (And.intro ?_ (And.intro ?_ (And.intro ?_ (And.intro ?_ (And.intro ?_ (And.intro ?_ (And.intro ?_ (And.intro ?_ (And.intro ?_ (And.intro ?_ (trivial)))))))))))))))))))))))))
    · intro hp K hK
      refine g_no rfl ?_
      exact st_move (.inl rfl) (e7) (hK _ _ rfl hG (Below.refl _ _))
    · intro hp K hK
      refine g_no rfl ?_
      have e96 : b.eval (.tmp 96) = _ := i96.trans (hp 0 (by kernel_rfl))
      exact st_index rfl (e13) (e96) (ixa _ _ _ (Nat.lt_succ_of_le HD.out.2) _) (hK _ _ rfl hG (Below.refl _ _))
    · intro hp K hK
      refine g_no rfl ?_
      have e97 : b.eval (.tmp 97) = _ := i97.trans (hp 1 (by kernel_rfl))
      exact st_load rfl (e97) (ld_cell 22 (by kernel_rfl) ((blk_cell hG.2 (0 + rd)).trans (by rw [Nat.zero_add]; exact arr_get _ (Nat.lt_succ_of_le HD.out.2)))) (hK _ _ rfl hG (Below.refl _ _))
    · intro hp K hK
      refine g_no rfl ?_
      exact st_move (.inl rfl) (e8) (hK _ _ rfl hG (Below.refl _ _))
    · intro hp K hK
      refine g_no rfl ?_
      have e99 : b.eval (.tmp 99) = _ := i99.trans (hp 3 (by kernel_rfl))
      exact st_index rfl (e10) (e99) (ixa _ _ _ (Nat.lt_succ_of_le HS.out) _) (hK _ _ rfl hG (Below.refl _ _))
    · intro hp K hK
      refine g_no rfl ?_
      have e100 : b.eval (.tmp 100) = _ := i100.trans (hp 4 (by kernel_rfl))
      exact st_load rfl (e100) (ld_cell 22 (by kernel_rfl) ((blk_cell hG.1.2.1 (0 + rs)).trans (by rw [Nat.zero_add]; exact arr_get _ (Nat.lt_succ_of_le HS.out)))) (hK _ _ rfl hG (Below.refl _ _))
    · intro hp K hK
      refine g_no rfl ?_
      exact st_move (.inl rfl) (e0) (hK _ _ rfl hG (Below.refl _ _))
    · intro hp K hK
      refine g_no rfl ?_
      have e102 : b.eval (.tmp 102) = _ := i102.trans (hp 6 (by kernel_rfl))
      exact st_conv rfl (e102) (cv _ _) (hK _ _ rfl hG (Below.refl _ _))
    · intro hp K hK
      refine g_no rfl ?_
      have e101 : b.eval (.tmp 101) = _ := i101.trans (hp 5 (by kernel_rfl))
      have e103 : b.eval (.tmp 103) = _ := i103.trans (hp 7 (by kernel_rfl))
      exact st_bin rfl (e101) (e103) (b_add (by rw [IntKind.wrap_u32, IntKind.wrap_u32]; omega)) (hK _ _ rfl hG (Below.refl _ _))
    · intro hp K hK
      refine g_no rfl ?_
      have e98 : b.eval (.tmp 98) = _ := i98.trans (hp 2 (by kernel_rfl))
      have e104 : b.eval (.tmp 104) = _ := i104.trans (hp 8 (by kernel_rfl))
      exact st_bin rfl (e98) (e104) b_eql (hK _ _ rfl hG (Below.refl _ _))
    · intro hp K hK
      refine g_no rfl ?_
      have e105 : b.eval (.tmp 105) = _ := i105.trans (hp 9 (by kernel_rfl))
      exact st_move (.inl rfl) (e105) (hK _ _ rfl hG (Below.refl _ _))
    · intro hp K hK
      refine g_is (j := 10) (want := true) (c := (τ rd) == ((ρ rs + n) % 4294967296)) rfl (yielded_of (d := 106) rfl rfl (i106.trans (hp 10 (by kernel_rfl)))) (fun hb => ?_) (fun hb => hK _ _ (cond_no hb) hG (Below.refl _ _))
      exact st_load rfl (e10) (ld_all 24 _ hG.1.2.1 Try.underlying24 rfl (by rw [arr_size]; kernel_rfl)) (hK _ _ (cond_yes hb).symm hG (Below.refl _ _))
    · intro hp K hK
      refine g_is (j := 10) (want := true) (c := (τ rd) == ((ρ rs + n) % 4294967296)) rfl (yielded_of (d := 106) rfl rfl (i106.trans (hp 10 (by kernel_rfl)))) (fun hb => ?_) (fun hb => hK _ _ (cond_no hb) hG (Below.refl _ _))
      exact st_load rfl (e13) (ld_all 24 _ hG.2 Try.underlying24 rfl (by rw [arr_size]; kernel_rfl)) (hK _ _ (cond_yes hb).symm hG (Below.refl _ _))
    · intro hp K hK
      refine g_is (j := 10) (want := true) (c := (τ rd) == ((ρ rs + n) % 4294967296)) rfl (yielded_of (d := 106) rfl rfl (i106.trans (hp 10 (by kernel_rfl)))) (fun hb => ?_) (fun hb => hK _ _ (cond_no hb) hG (Below.refl _ _))
      exact st_move (.inl rfl) (e7) (hK _ _ (cond_yes hb).symm hG (Below.refl _ _))
    · intro hp K hK
      refine g_is (j := 10) (want := true) (c := (τ rd) == ((ρ rs + n) % 4294967296)) rfl (yielded_of (d := 106) rfl rfl (i106.trans (hp 10 (by kernel_rfl)))) (fun hb => ?_) (fun hb => hK _ _ (cond_no hb) hG (Below.refl _ _))
      exact st_move (.inl rfl) (e9) (hK _ _ (cond_yes hb).symm hG (Below.refl _ _))
    · intro hp K hK
      refine g_is (j := 10) (want := true) (c := (τ rd) == ((ρ rs + n) % 4294967296)) rfl (yielded_of (d := 106) rfl rfl (i106.trans (hp 10 (by kernel_rfl)))) (fun hb => ?_) (fun hb => hK _ _ (cond_no hb) hG (Below.refl _ _))
      have e107 : b.eval (.tmp 107) = _ := i107.trans (hp 11 (by kernel_rfl))
      replace e107 := e107.trans (cond_yes hb)
      have e108 : b.eval (.tmp 108) = _ := i108.trans (hp 12 (by kernel_rfl))
      replace e108 := e108.trans (cond_yes hb)
      have e109 : b.eval (.tmp 109) = _ := i109.trans (hp 13 (by kernel_rfl))
      replace e109 := e109.trans (cond_yes hb)
      have e110 : b.eval (.tmp 110) = _ := i110.trans (hp 14 (by kernel_rfl))
      replace e110 := e110.trans (cond_yes hb)
      refine st_call rfl (by first | (simp only [List.map_toArray, List.map_cons, List.map_nil, eval_const, e107, e108, e109, e110]; done) | (simp only [List.map_toArray, List.map_cons, List.map_nil, eval_const, e107, e108, e109, e110]; rfl)) (by kernel_rfl) ?_
      refine (others_is ρ τ (rd : Int) (by_ : Int) _ HO2.out).mono ?_
      rintro e w' ⟨rfl, hb'⟩
      exact ⟨_, rfl, hK _ _ (cond_yes hb).symm ⟨⟨below_step hG.1.1 hb', blk_below hG.1.2.1 hb', Kd.R_below hG.1.2.2 hb'⟩, blk_below hG.2 hb'⟩ hb'⟩
    · intro hp K hK
      refine g_no rfl ?_
      have e106 : b.eval (.tmp 106) = _ := i106.trans (hp 10 (by kernel_rfl))
      have e111 : b.eval (.tmp 111) = _ := i111.trans (hp 15 (by kernel_rfl))
      exact st_pick rfl (e106) (by first | (rw [e111]; exact pick_and) | (rw [show b.eval (Operand.tmp 111) = _ from eval_const _]; exact pick_and)) (hK _ _ rfl hG (Below.refl _ _))
    · intro hp K hK
      refine g_no rfl ?_
      have e112 : b.eval (.tmp 112) = _ := i112.trans (hp 16 (by kernel_rfl))
      exact st_move (.inl rfl) (e112) (hK _ _ rfl hG (Below.refl _ _))
    · intro hp K hK
      refine g_is (j := 17) (want := true) (c := ((τ rd) == ((ρ rs + n) % 4294967296)) && true) rfl (yielded_of (d := 113) rfl rfl (i113.trans (hp 17 (by kernel_rfl)))) (fun hb => ?_) (fun hb => hK _ _ (cond_no hb) hG (Below.refl _ _))
      exact st_move (.inl rfl) (e12) (hK _ _ (cond_yes hb).symm hG (Below.refl _ _))
    · intro hp K hK
      refine g_is (j := 17) (want := true) (c := ((τ rd) == ((ρ rs + n) % 4294967296)) && true) rfl (yielded_of (d := 113) rfl rfl (i113.trans (hp 17 (by kernel_rfl)))) (fun hb => ?_) (fun hb => hK _ _ (cond_no hb) hG (Below.refl _ _))
      have e114 : b.eval (.tmp 114) = _ := i114.trans (hp 18 (by kernel_rfl))
      replace e114 := e114.trans (cond_yes hb)
      refine st_call rfl (by first | (simp only [List.map_toArray, List.map_cons, List.map_nil, eval_const, e114]; done) | (simp only [List.map_toArray, List.map_cons, List.map_nil, eval_const, e114]; rfl)) (by kernel_rfl) ?_
      refine (pintlelaw12_can.calls (l2.length + 13) A2 c2 l2 true _ (Kd.R_reads' hG.1.2.2).2.2 HC.out (can_is l2 (Nat.le_trans HLEN2.out (by decide)) (fun x hx => (HIN2.out x hx).2))).mono ?_
      rintro e w' ⟨rfl, hb'⟩
      exact ⟨_, rfl, hK _ _ (cond_yes hb).symm ⟨⟨below_step hG.1.1 hb', blk_below hG.1.2.1 hb', Kd.R_below hG.1.2.2 hb'⟩, blk_below hG.2 hb'⟩ hb'⟩
    · intro hp K hK
      refine g_no rfl ?_
      have e113 : b.eval (.tmp 113) = _ := i113.trans (hp 17 (by kernel_rfl))
      have e115 : b.eval (.tmp 115) = _ := i115.trans (hp 19 (by kernel_rfl))
      exact st_pick rfl (e113) (by first | (rw [e115]; exact pick_and) | (rw [show b.eval (Operand.tmp 115) = _ from eval_const _]; exact pick_and)) (hK _ _ rfl hG (Below.refl _ _))
    · intro hp K hK
      refine g_no rfl ?_
      have e116 : b.eval (.tmp 116) = _ := i116.trans (hp 20 (by kernel_rfl))
      exact st_move (.inl rfl) (e116) (hK _ _ rfl hG (Below.refl _ _))
    · intro hp K hK
      refine g_is (j := 21) (want := true) (c := (((τ rd) == ((ρ rs + n) % 4294967296)) && true) && true) rfl (yielded_of (d := 117) rfl rfl (i117.trans (hp 21 (by kernel_rfl)))) (fun hb => ?_) (fun hb => hK _ _ (cond_no hb) hG (Below.refl _ _))
      refine st_call rfl (by first | (simp only [List.map_toArray, List.map_cons, List.map_nil, eval_const]; done) | (simp only [List.map_toArray, List.map_cons, List.map_nil, eval_const]; rfl)) (by kernel_rfl) ?_
      refine (pintlelaw12_lives.calls 5 true _ (Go.Proofs.Yteglbikbnlebpaa.Pure.lives_is 5 (Nat.le_refl _))).mono ?_
      rintro e w' ⟨rfl, hb'⟩
      exact ⟨_, rfl, hK _ _ (cond_yes hb).symm ⟨⟨below_step hG.1.1 hb', blk_below hG.1.2.1 hb', Kd.R_below hG.1.2.2 hb'⟩, blk_below hG.2 hb'⟩ hb'⟩
    · intro hp K hK
      refine g_no rfl ?_
      have e117 : b.eval (.tmp 117) = _ := i117.trans (hp 21 (by kernel_rfl))
      have e118 : b.eval (.tmp 118) = _ := i118.trans (hp 22 (by kernel_rfl))
      exact st_pick rfl (e117) (by first | (rw [e118]; exact pick_and) | (rw [show b.eval (Operand.tmp 118) = _ from eval_const _]; exact pick_and)) (hK _ _ rfl hG (Below.refl _ _))
    · intro hp K hK
      refine g_no rfl ?_
      have e119 : b.eval (.tmp 119) = _ := i119.trans (hp 23 (by kernel_rfl))
      exact st_move (.inr rfl) (e119) (hK _ _ rfl hG (Below.refl _ _))
  intro vs W hG hp b hb
  have q24 : vs 24 = _ := hp 24 (by decide)
  clear hp
  simp only [fill, Act.put, List.append_eq, List.cons_append, List.nil_append, List.take_succ_cons, List.take_zero, List.setIfInBounds_toArray, List.set_cons_succ, List.set_cons_zero, Nat.reduceAdd, Nat.zero_add, q24] at hb
  subst hb
  refine wpList_nil ?_
  clear q24
  refine HK18.out _ _ ?_
  clear HK18
  clear hG2
  have hc : (((((τ rd) == ((ρ rs + n) % 4294967296)) && true) && true) && true) = true := by
    rw [HR2.out]
    simp
  rw [hc]
  clear hc
  have HG := Lib.hid hG.1.1
  clear hG
  go_wp2
  go_ret
  exact ⟨rfl, HG.out⟩
end Go.Proofs.Yteglbikbnlebpaa.Pd
