/- Window: whether two lists of places are one; the law of the places that lie over the input. -/
import Derived.Test.YtfcimgdogkpbcaaW17
namespace Go.Proofs.Ytfcimgdogkpbcaa.W
open Go.RowKit T1 F Dr
set_option linter.unusedVariables false
set_option linter.unusedSimpArgs false
set_option maxRecDepth 100000

theorem flat_at (l : List (Int × Int)) : ∀ (i : Nat) (p : Int × Int), l[i]? = some p → (flat l)[i * 2]? = some (.int .i64 p.1) ∧ (flat l)[i * 2 + 1]? = some (.int .i64 p.2) := by
  induction l with
  | nil => intro i p h; simp at h
  | cons q l ih =>
    intro i p h
    have e : flat (q :: l) = .int .i64 q.1 :: .int .i64 q.2 :: flat l := by simp [flat]
    rw [e]
    cases i with
    | zero =>
      have : q = p := by simpa using h
      subst this
      exact ⟨rfl, rfl⟩
    | succ i =>
      have := ih i p (by simpa using h)
      rw [show (i + 1) * 2 = i * 2 + 1 + 1 by omega]
      exact this
/-- A row that holds l, at a place of it. -/
theorem row_at {W : World} {b : Nat} {v : Value} {l : List (Int × Int)} (h : W.ownsRow b 34 2 v l.length (flat l)) {i : Nat} {p : Int × Int} (hi : l[i]? = some p) :
    ∃ g cap, v = .slice (some ⟨g, 0, none⟩) l.length cap ∧ (loadVar 34 ⟨g, i * 2, none⟩).run Try.prog W = .ok (.agg #[.int .i64 p.1, .int .i64 p.2]) W := by
  have hlt : i < l.length := (List.getElem?_eq_some_iff.1 hi).1
  rcases h.2 with ⟨_, h0⟩ | ⟨g, cap, cur, rfl, _, hg, hc, _, hcs, htake⟩
  · omega
  · refine ⟨g, cap, rfl, ?_⟩
    obtain ⟨f0, f1⟩ := flat_at l i p hi
    have hcur : ∀ (q : Nat) (u : Value), (flat l)[q]? = some u → cur[q]? = some u := by
      intro q u hq
      rw [← htake, List.getElem?_take] at hq
      split at hq
      · rw [← Array.getElem?_toList]; exact hq
      · cases hq
    refine ldm [.int .i64 p.1, .int .i64 p.2] 34 _ hg (fun j u hu => ?_) Try.underlying34 rfl (by kernel_rfl)
    match j, hu with
    | 0, hu =>
      obtain rfl : Value.int .i64 p.1 = u := by simpa using hu
      exact hcur _ _ f0
    | 1, hu =>
      obtain rfl : Value.int .i64 p.2 = u := by simpa using hu
      exact hcur _ _ f1
    | j + 2, hu => simp at hu
theorem sizeOf34 (W : World) : (sizeOf 34).run Try.prog W = .ok 2 W := by kernel_rfl
theorem ix45 {g n c i : Nat} (h : i < n) (W : World) : (Instr.indexAt 45 (.slice (some ⟨g, 0, none⟩) n c) (.int .i64 (i : Int))).run Try.prog W = .ok (.pointer (some ⟨g, i * 2, none⟩)) W := by
  rw [run_indexAt_slice W 45 ⟨g, 0, none⟩ n c .i64 i (by kernel_rfl), if_pos ⟨by omega, by omega⟩]
  have e : Try.prog.elem 45 = 34 := by kernel_rfl
  rw [e, sizeOf34]
  simp only [Result.andThen_ok, Addr.add_mid, Int.toNat_natCast, Nat.zero_add]
theorem b_len' {a : Option Addr} {n c : Nat} {m : Nat} (h : n = m) (cs : Array Bool) (W : World) : (builtin .len #[45] 3 cs #[.slice a n c]).run Try.prog W = .ok (.value (.int .i64 (m : Int))) W := by
  subst h
  exact b_len cs W
theorem bneq2 {x y : Operand} (a b : Int) (W : World) : (do eqGuard .neq 34 x y (.agg #[.int .i64 a, .int .i64 b]) (.agg #[.int .i64 a, .int .i64 b]); binOp .neq 34 (.agg #[.int .i64 a, .int .i64 b]) (.agg #[.int .i64 a, .int .i64 b]) : Sem Value).run Try.prog W = .ok (.bool false) W := by
  have g : (eqGuard .neq 34 x y (.agg #[.int .i64 a, .int .i64 b]) (.agg #[.int .i64 a, .int .i64 b])).run Try.prog W = .ok () W := by kernel_rfl
  have e := eq2 a b a b W
  have e' : (Op.equal 34 (.agg #[.int .i64 a, .int .i64 b]) (.agg #[.int .i64 a, .int .i64 b])).run Try.prog W = .ok true W := e.trans (by simp)
  rw [Sem.run_bind, g]
  simp only [Result.andThen_ok]
  unfold binOp
  simp [e']
set_option maxHeartbeats 4000000 in
theorem same_is (l : List (Int × Int)) (ba bb : Nat) (aa ab : Option Addr) (ca cb : Nat) (w : World) (hl : l.length ≤ 1000) (ha : w.ownsRow ba 34 2 (.slice aa l.length ca) l.length (flat l)) (hb : w.ownsRow bb 34 2 (.slice ab l.length cb) l.length (flat l)) : Calls Try.prog 27 #[.slice aa l.length ca, .slice ab l.length cb] w (fun e w' => e = .returned (.bool true) ∧ Below w.heap.size w w') := by
  have hG : Below w.heap.size w w ∧ w.ownsRow ba 34 2 (.slice aa l.length ca) l.length (flat l) ∧ w.ownsRow bb 34 2 (.slice ab l.length cb) l.length (flat l) := ⟨Below.refl _ _, ha, hb⟩
  clear ha hb
  have HL := Lib.hid hl
  clear hl
  have hJ := Lib.hid hG
  clear hG
  go_enter Try.func27, Try.ntmps27
  apply wp_seq_k
  intro K1 hK1
  have HK1 := Lib.hid hK1
  clear hK1
  go_wp2
  replace hJ := hJ.out
  have hG := hJ
  clear hJ
  refine HK1.out _ _ ?_
  clear HK1
  apply wp_seq_k
  intro K2 hK2
  have HK2 := Lib.hid hK2
  clear hK2
  apply wp_seq_k
  intro K3 hK3
  have HK3 := Lib.hid hK3
  clear hK3
  refine wp_listed (R := fun W W' => Below W.heap.size W W') 5 [.val (.slice aa l.length ca), .val (.int .i64 (l.length : Int)), .val (.slice ab l.length cb), .val (.int .i64 (l.length : Int)), .val (.bool false)] (fun W => Below w.heap.size w W ∧ W.ownsRow ba 34 2 (.slice aa l.length ca) l.length (flat l) ∧ W.ownsRow bb 34 2 (.slice ab l.length cb) l.length (flat l)) (by kernel_rfl) hG ?_ ?_
  · intro vs W hG b hb
    have e0 : b.eval (.tmp 0) = .slice aa l.length ca := (congrArg (fun x => Act.eval x (.tmp 0)) hb).trans ((fill_out _ 0 _ (by kernel_rfl)).trans rfl)
    have e1 : b.eval (.tmp 1) = .slice ab l.length cb := (congrArg (fun x => Act.eval x (.tmp 1)) hb).trans ((fill_out _ 0 _ (by kernel_rfl)).trans rfl)
    have i6 : b.eval (.tmp 6) = vs 0 := (congrArg (fun x => Act.eval x (.tmp 6)) hb).trans ((fill_in _ 0 0 _ _ 6 (by kernel_rfl) rfl rfl (by simp)).trans (congrArg vs (Nat.zero_add _)))
    have i7 : b.eval (.tmp 7) = vs 1 := (congrArg (fun x => Act.eval x (.tmp 7)) hb).trans ((fill_in _ 0 1 _ _ 7 (by kernel_rfl) rfl rfl (by simp)).trans (congrArg vs (Nat.zero_add _)))
    have i8 : b.eval (.tmp 8) = vs 2 := (congrArg (fun x => Act.eval x (.tmp 8)) hb).trans ((fill_in _ 0 2 _ _ 8 (by kernel_rfl) rfl rfl (by simp)).trans (congrArg vs (Nat.zero_add _)))
    have i9 : b.eval (.tmp 9) = vs 3 := (congrArg (fun x => Act.eval x (.tmp 9)) hb).trans ((fill_in _ 0 3 _ _ 9 (by kernel_rfl) rfl rfl (by simp)).trans (congrArg vs (Nat.zero_add _)))
    clear hb
    refine And.intro ?_ (And.intro ?_ (And.intro ?_ (And.intro ?_ (And.intro ?_ (trivial)))))
    · intro hp K hK
      refine g_no rfl ?_
      exact st_move (.inl rfl) (e0) (hK _ _ rfl hG (Below.refl _ _))
    · intro hp K hK
      refine g_no rfl ?_
      have e6 : b.eval (.tmp 6) = .slice aa l.length ca := i6.trans (hp 0 (by kernel_rfl))
      exact st_builtin rfl (by first | (simp only [List.map_toArray, List.map_cons, List.map_nil, eval_const, e6]; done) | (simp only [List.map_toArray, List.map_cons, List.map_nil, eval_const, e6]; rfl)) (fun cs => b_len cs _) (hK _ _ rfl hG (Below.refl _ _))
    · intro hp K hK
      refine g_no rfl ?_
      exact st_move (.inl rfl) (e1) (hK _ _ rfl hG (Below.refl _ _))
    · intro hp K hK
      refine g_no rfl ?_
      have e8 : b.eval (.tmp 8) = .slice ab l.length cb := i8.trans (hp 2 (by kernel_rfl))
      exact st_builtin rfl (by first | (simp only [List.map_toArray, List.map_cons, List.map_nil, eval_const, e8]; done) | (simp only [List.map_toArray, List.map_cons, List.map_nil, eval_const, e8]; rfl)) (fun cs => b_len cs _) (hK _ _ rfl hG (Below.refl _ _))
    · intro hp K hK
      refine g_no rfl ?_
      have e7 : b.eval (.tmp 7) = .int .i64 (l.length : Int) := i7.trans (hp 1 (by kernel_rfl))
      have e9 : b.eval (.tmp 9) = .int .i64 (l.length : Int) := i9.trans (hp 3 (by kernel_rfl))
      exact st_bin rfl (e7) (e9) (b_neq.trans (by simp)) (hK _ _ rfl hG (Below.refl _ _))
  intro vs W hG hp b hb
  have q4 : vs 4 = .bool false := hp 4 (by decide)
  clear hp
  simp only [fill, Act.put, List.append_eq, List.cons_append, List.nil_append, List.take_succ_cons, List.take_zero, List.setIfInBounds_toArray, List.set_cons_succ, List.set_cons_zero, Nat.reduceAdd, Nat.zero_add, q4] at hb
  subst hb
  refine wpList_nil ?_
  clear q4
  refine HK3.out _ _ ?_
  clear HK3
  apply wp_cond_false rfl
  apply wp_skip
  simp only [Exit.then]
  refine HK2.out _ _ ?_
  clear HK2
  apply wp_seq_k
  intro K4 hK4
  have HK4 := Lib.hid hK4
  clear hK4
  apply wp_seq_k
  intro K5 hK5
  have HK5 := Lib.hid hK5
  clear hK5
  have hJ := Lib.hid hG
  clear hG
  go_wp2
  replace hJ := hJ.out
  refine HK5.out _ _ ?_
  clear HK5
  apply wp_block
  refine wp_loopS [5, 11, 12, 13, 14, 15, 16, 17, 18, 19, 20, 21, 22, 23, 24, 25] (fun sl W => ∃ i : Nat, sl 5 = .int .i64 (i : Int) ∧ i ≤ l.length ∧ Below w.heap.size w W ∧ W.ownsRow ba 34 2 (.slice aa l.length ca) l.length (flat l) ∧ W.ownsRow bb 34 2 (.slice ab l.length cb) l.length (flat l)) (fun sl W => Msr (l.length : Int) (sl 5)) ⟨0, rfl, Nat.zero_le _, hJ⟩ ?_
  intro vs W b hb hI
  clear hJ
  obtain ⟨i, h5, hi, hG⟩ := hI
  simp only [setSlots, Act.put, List.setIfInBounds_toArray, List.set_cons_succ, List.set_cons_zero] at hb
  subst hb
  replace h5 : vs 5 = .int .i64 (i : Int) := h5
  rw [h5]
  clear h5
  apply wp_seq_k
  intro K6 hK6
  have HK6 := Lib.hid hK6
  clear hK6
  apply wp_seq_k
  intro K7 hK7
  have HK7 := Lib.hid hK7
  clear hK7
  refine wp_listed (R := fun W W' => Below W.heap.size W W') 4 [.val (.int .i64 (i : Int)), .val (.slice aa l.length ca), .val (.int .i64 (l.length : Int)), .val (.bool (decide ((i : Int) < (l.length : Int))))] (fun W => Below w.heap.size w W ∧ W.ownsRow ba 34 2 (.slice aa l.length ca) l.length (flat l) ∧ W.ownsRow bb 34 2 (.slice ab l.length cb) l.length (flat l)) (by kernel_rfl) hG ?_ ?_
  · intro vs W hG b hb
    have e0 : b.eval (.tmp 0) = .slice aa l.length ca := (congrArg (fun x => Act.eval x (.tmp 0)) hb).trans ((fill_out _ 0 _ (by kernel_rfl)).trans rfl)
    have e5 : b.eval (.tmp 5) = .int .i64 (i : Int) := (congrArg (fun x => Act.eval x (.tmp 5)) hb).trans ((fill_out _ 0 _ (by kernel_rfl)).trans rfl)
    have i11 : b.eval (.tmp 11) = vs 0 := (congrArg (fun x => Act.eval x (.tmp 11)) hb).trans ((fill_in _ 0 0 _ _ 11 (by kernel_rfl) rfl rfl (by simp)).trans (congrArg vs (Nat.zero_add _)))
    have i12 : b.eval (.tmp 12) = vs 1 := (congrArg (fun x => Act.eval x (.tmp 12)) hb).trans ((fill_in _ 0 1 _ _ 12 (by kernel_rfl) rfl rfl (by simp)).trans (congrArg vs (Nat.zero_add _)))
    have i13 : b.eval (.tmp 13) = vs 2 := (congrArg (fun x => Act.eval x (.tmp 13)) hb).trans ((fill_in _ 0 2 _ _ 13 (by kernel_rfl) rfl rfl (by simp)).trans (congrArg vs (Nat.zero_add _)))
    clear hb
    refine And.intro ?_ (And.intro ?_ (And.intro ?_ (And.intro ?_ (trivial))))
    · intro hp K hK
      refine g_no rfl ?_
      exact st_move (.inl rfl) (e5) (hK _ _ rfl hG (Below.refl _ _))
    · intro hp K hK
      refine g_no rfl ?_
      exact st_move (.inl rfl) (e0) (hK _ _ rfl hG (Below.refl _ _))
    · intro hp K hK
      refine g_no rfl ?_
      have e12 : b.eval (.tmp 12) = .slice aa l.length ca := i12.trans (hp 1 (by kernel_rfl))
      exact st_builtin rfl (by first | (simp only [List.map_toArray, List.map_cons, List.map_nil, eval_const, e12]; done) | (simp only [List.map_toArray, List.map_cons, List.map_nil, eval_const, e12]; rfl)) (fun cs => b_len cs _) (hK _ _ rfl hG (Below.refl _ _))
    · intro hp K hK
      refine g_no rfl ?_
      have e11 : b.eval (.tmp 11) = .int .i64 (i : Int) := i11.trans (hp 0 (by kernel_rfl))
      have e13 : b.eval (.tmp 13) = .int .i64 (l.length : Int) := i13.trans (hp 2 (by kernel_rfl))
      exact st_bin rfl (e11) (e13) b_lss (hK _ _ rfl hG (Below.refl _ _))
  intro vs W hG hp b hb
  have q3 : vs 3 = .bool (decide ((i : Int) < (l.length : Int))) := hp 3 (by decide)
  clear hp
  simp only [fill, Act.put, List.append_eq, List.cons_append, List.nil_append, List.take_succ_cons, List.take_zero, List.setIfInBounds_toArray, List.set_cons_succ, List.set_cons_zero, Nat.reduceAdd, Nat.zero_add, q3] at hb
  subst hb
  refine wpList_nil ?_
  clear q3
  refine HK7.out _ _ ?_
  clear HK7
  refine wp_cond_split rfl (fun hlt => ?_) (fun hlt => ?_)
  rotate_left
  · have hJ := Lib.hid hG
    clear hlt hG
    apply wp_exit
    simp only [Exit.inBlock, Exit.then, ↓reduceIte]
    refine HK4.out _ _ ?_
    clear HK4
    go_wp2
    go_ret
    exact ⟨rfl, hJ.out.1⟩
  replace hlt := of_decide_eq_true hlt
  have hil : i < l.length := by omega
  apply wp_skip
  simp only [Exit.then]
  refine HK6.out _ _ ?_
  clear HK6
  apply wp_seq_k
  intro K8 hK8
  have HK8 := Lib.hid hK8
  clear hK8
  apply wp_block
  apply wp_seq_k
  intro K9 hK9
  have HK9 := Lib.hid hK9
  clear hK9
  have hpp : l[i]? = some l[i] := List.getElem?_eq_getElem hil
  generalize l[i] = p at hpp
  obtain ⟨ga, cca, hva, -⟩ := row_at hG.2.1 hpp
  obtain ⟨rfl, rfl⟩ : aa = some ⟨ga, 0, none⟩ ∧ ca = cca := by simpa using hva
  clear hva
  obtain ⟨gb, ccb, hvb, -⟩ := row_at hG.2.2 hpp
  obtain ⟨rfl, rfl⟩ : ab = some ⟨gb, 0, none⟩ ∧ cb = ccb := by simpa using hvb
  clear hvb
  refine wp_drawn (R := fun W W' => Below W.heap.size W W') 9 [.val (.slice (some ⟨ga, 0, none⟩) l.length ca), .val (.int .i64 (i : Int)), .val (.pointer (some ⟨ga, i * 2, none⟩)), .val (.agg #[.int .i64 p.1, .int .i64 p.2]), .val (.slice (some ⟨gb, 0, none⟩) l.length cb), .val (.int .i64 (i : Int)), .val (.pointer (some ⟨gb, i * 2, none⟩)), .val (.agg #[.int .i64 p.1, .int .i64 p.2]), .val (.bool false)] (fun W => Below w.heap.size w W ∧ W.ownsRow ba 34 2 (.slice (some ⟨ga, 0, none⟩) l.length ca) l.length (flat l) ∧ W.ownsRow bb 34 2 (.slice (some ⟨gb, 0, none⟩) l.length cb) l.length (flat l)) rfl (by kernel_rfl) ⟨hG.1.drew, hG.2⟩ ?_ ?_
  · intro vs W hG b hb
    have e0 : b.eval (.tmp 0) = .slice (some ⟨ga, 0, none⟩) l.length ca := (congrArg (fun x => Act.eval x (.tmp 0)) hb).trans ((fill_out _ 0 _ (by kernel_rfl)).trans rfl)
    have e1 : b.eval (.tmp 1) = .slice (some ⟨gb, 0, none⟩) l.length cb := (congrArg (fun x => Act.eval x (.tmp 1)) hb).trans ((fill_out _ 0 _ (by kernel_rfl)).trans rfl)
    have e5 : b.eval (.tmp 5) = .int .i64 (i : Int) := (congrArg (fun x => Act.eval x (.tmp 5)) hb).trans ((fill_out _ 0 _ (by kernel_rfl)).trans rfl)
    have i17 : b.eval (.tmp 17) = vs 0 := (congrArg (fun x => Act.eval x (.tmp 17)) hb).trans ((fill_in _ 0 0 _ _ 17 (by kernel_rfl) rfl rfl (by simp)).trans (congrArg vs (Nat.zero_add _)))
    have i18 : b.eval (.tmp 18) = vs 1 := (congrArg (fun x => Act.eval x (.tmp 18)) hb).trans ((fill_in _ 0 1 _ _ 18 (by kernel_rfl) rfl rfl (by simp)).trans (congrArg vs (Nat.zero_add _)))
    have i19 : b.eval (.tmp 19) = vs 2 := (congrArg (fun x => Act.eval x (.tmp 19)) hb).trans ((fill_in _ 0 2 _ _ 19 (by kernel_rfl) rfl rfl (by simp)).trans (congrArg vs (Nat.zero_add _)))
    have i20 : b.eval (.tmp 20) = vs 3 := (congrArg (fun x => Act.eval x (.tmp 20)) hb).trans ((fill_in _ 0 3 _ _ 20 (by kernel_rfl) rfl rfl (by simp)).trans (congrArg vs (Nat.zero_add _)))
    have i21 : b.eval (.tmp 21) = vs 4 := (congrArg (fun x => Act.eval x (.tmp 21)) hb).trans ((fill_in _ 0 4 _ _ 21 (by kernel_rfl) rfl rfl (by simp)).trans (congrArg vs (Nat.zero_add _)))
    have i22 : b.eval (.tmp 22) = vs 5 := (congrArg (fun x => Act.eval x (.tmp 22)) hb).trans ((fill_in _ 0 5 _ _ 22 (by kernel_rfl) rfl rfl (by simp)).trans (congrArg vs (Nat.zero_add _)))
    have i23 : b.eval (.tmp 23) = vs 6 := (congrArg (fun x => Act.eval x (.tmp 23)) hb).trans ((fill_in _ 0 6 _ _ 23 (by kernel_rfl) rfl rfl (by simp)).trans (congrArg vs (Nat.zero_add _)))
    have i24 : b.eval (.tmp 24) = vs 7 := (congrArg (fun x => Act.eval x (.tmp 24)) hb).trans ((fill_in _ 0 7 _ _ 24 (by kernel_rfl) rfl rfl (by simp)).trans (congrArg vs (Nat.zero_add _)))
    clear hb
    refine And.intro ?_ (And.intro ?_ (And.intro ?_ (And.intro ?_ (And.intro ?_ (And.intro ?_ (And.intro ?_ (And.intro ?_ (And.intro ?_ (trivial)))))))))
    · intro hp K hK
      refine g_no rfl ?_
      exact st_move (.inl rfl) (e0) (hK _ _ rfl hG (Below.refl _ _))
    · intro hp K hK
      refine g_no rfl ?_
      exact st_move (.inl rfl) (e5) (hK _ _ rfl hG (Below.refl _ _))
    · intro hp K hK
      refine g_no rfl ?_
      have e17 : b.eval (.tmp 17) = .slice (some ⟨ga, 0, none⟩) l.length ca := i17.trans (hp 0 (by kernel_rfl))
      have e18 : b.eval (.tmp 18) = .int .i64 (i : Int) := i18.trans (hp 1 (by kernel_rfl))
      exact st_index rfl (e17) (e18) (ix45 hil _) (hK _ _ rfl hG (Below.refl _ _))
    · intro hp K hK
      refine g_no rfl ?_
      have e19 : b.eval (.tmp 19) = .pointer (some ⟨ga, i * 2, none⟩) := i19.trans (hp 2 (by kernel_rfl))
      exact st_load rfl (e19) (by obtain ⟨g', c', hv, hl⟩ := row_at hG.2.1 hpp; have hv2 : ga = g' := (by simp at hv; exact hv.1); rw [hv2]; exact hl) (hK _ _ rfl hG (Below.refl _ _))
    · intro hp K hK
      refine g_no rfl ?_
      exact st_move (.inl rfl) (e1) (hK _ _ rfl hG (Below.refl _ _))
    · intro hp K hK
      refine g_no rfl ?_
      exact st_move (.inl rfl) (e5) (hK _ _ rfl hG (Below.refl _ _))
    · intro hp K hK
      refine g_no rfl ?_
      have e21 : b.eval (.tmp 21) = .slice (some ⟨gb, 0, none⟩) l.length cb := i21.trans (hp 4 (by kernel_rfl))
      have e22 : b.eval (.tmp 22) = .int .i64 (i : Int) := i22.trans (hp 5 (by kernel_rfl))
      exact st_index rfl (e21) (e22) (ix45 hil _) (hK _ _ rfl hG (Below.refl _ _))
    · intro hp K hK
      refine g_no rfl ?_
      have e23 : b.eval (.tmp 23) = .pointer (some ⟨gb, i * 2, none⟩) := i23.trans (hp 6 (by kernel_rfl))
      exact st_load rfl (e23) (by obtain ⟨g', c', hv, hl⟩ := row_at hG.2.2 hpp; have hv2 : gb = g' := (by simp at hv; exact hv.1); rw [hv2]; exact hl) (hK _ _ rfl hG (Below.refl _ _))
    · intro hp K hK
      refine g_no rfl ?_
      have e20 : b.eval (.tmp 20) = .agg #[.int .i64 p.1, .int .i64 p.2] := i20.trans (hp 3 (by kernel_rfl))
      have e24 : b.eval (.tmp 24) = .agg #[.int .i64 p.1, .int .i64 p.2] := i24.trans (hp 7 (by kernel_rfl))
      exact st_bin rfl (e20) (e24) (bneq2 _ _ _) (hK _ _ rfl hG (Below.refl _ _))
  intro vs W hG hp b hb
  have q8 : vs 8 = .bool false := hp 8 (by decide)
  clear hp
  simp only [fill, Act.put, List.append_eq, List.cons_append, List.nil_append, List.take_succ_cons, List.take_zero, List.setIfInBounds_toArray, List.set_cons_succ, List.set_cons_zero, Nat.reduceAdd, Nat.zero_add, q8] at hb
  subst hb
  refine wpList_nil ?_
  clear q8
  refine HK9.out _ _ ?_
  clear HK9
  apply wp_cond_false rfl
  apply wp_skip
  simp only [Exit.inBlock, Exit.then]
  refine HK8.out _ _ ?_
  clear HK8
  have hl : IntKind.i64.wrap ((i : Int) + 1) = (i : Int) + 1 := IntWalk.i64_in _ (by have := HL.out; omega)
  have hG := Lib.hid hG
  have hlt := Lib.hid hlt
  have hil := Lib.hid hil
  have hpp := Lib.hid hpp
  go_wp2
  refine ⟨loop_frame (by kernel_rfl), ⟨i + 1, by show Value.int .i64 _ = _; simp, hil.out, hG.out⟩, ?_⟩
  exact Msr.lt hlt.out
theorem not_wi {y x a b : Int} : (((decide (y < 0) || decide (a ≤ y)) || decide (x < 0)) || decide (b ≤ x)) = !wiB y x a b := by
  unfold wiB
  have e0 : decide (y < 0) = !decide (0 ≤ y) := by rw [← decide_not]; exact decide_eq_decide.2 (by omega)
  have e1 : decide (a ≤ y) = !decide (y < a) := by rw [← decide_not]; exact decide_eq_decide.2 (by omega)
  have e2 : decide (x < 0) = !decide (0 ≤ x) := by rw [← decide_not]; exact decide_eq_decide.2 (by omega)
  have e3 : decide (b ≤ x) = !decide (x < b) := by rw [← decide_not]; exact decide_eq_decide.2 (by omega)
  rw [e0, e1, e2, e3]
  generalize decide (0 ≤ y) = p
  generalize decide (y < a) = q
  generalize decide (0 ≤ x) = r
  generalize decide (x < b) = t
  cases p <;> cases q <;> cases r <;> cases t <;> rfl
set_option maxHeartbeats 8000000 in
theorem tapsl_bad (n0 n1 k0 k1 s0 s1 p0 p1 p2 p3 y x : Int) (w : World) (h : goodV n0 n1 k0 k1 s0 s1 p0 p1 p2 p3 = false) : Calls Try.prog 9 #[.agg #[.int .i64 n0, .int .i64 n1, .int .i64 k0, .int .i64 k1, .int .i64 s0, .int .i64 s1, .int .i64 p0, .int .i64 p1, .int .i64 p2, .int .i64 p3], .int .i64 y, .int .i64 x] w (fun e w' => e = .returned (.bool true) ∧ Below w.heap.size w w') := by
  have H := Lib.hid h
  clear h
  have J := Lib.hid (WS.start n0 n1 k0 k1 s0 s1 p0 p1 p2 p3 w)
  go_enter Try.func9, Try.ntmps9
  apply wp_seq_k
  intro K1 hK1
  have HK1 := Lib.hid hK1
  clear hK1
  go_wp2
  refine HK1.out _ _ ?_
  clear HK1
  generalize w.alloc (win n0 n1 k0 k1 s0 s1 p0 p1 p2 p3) = u0 at *
  replace J := J.out
  apply wp_seq_k
  intro K2 hK2
  have HK2 := Lib.hid hK2
  clear hK2
  refine wp_listed (R := fun W W' => Below W.heap.size W W') 16 [.val (.pointer (some ⟨w.heap.size, 0, none⟩)), .val (.agg #[.int .i64 n0, .int .i64 n1]), .val (.pointer (some ⟨w.heap.size, 2, none⟩)), .val (.agg #[.int .i64 k0, .int .i64 k1]), .val (.pointer (some ⟨w.heap.size, 4, none⟩)), .val (.agg #[.int .i64 s0, .int .i64 s1]), .val (.pointer (some ⟨w.heap.size, 6, none⟩)), .val (.agg #[.int .i64 p0, .int .i64 p1, .int .i64 p2, .int .i64 p3]), .val (.int .i64 y), .val (.int .i64 x), .val (.tuple #[.slice none 0 0, .bool false]), .val (.tuple #[.slice none 0 0, .bool false]), .val (.slice none 0 0), .val (.bool false), .val (.slice none 0 0), .val (.bool false)] (fun W => WS n0 n1 k0 k1 s0 s1 p0 p1 p2 p3 w W) (by kernel_rfl) J ?_ ?_
  · intro vs W hG b hb
    have e1 : b.eval (.tmp 1) = .int .i64 y := (congrArg (fun x => Act.eval x (.tmp 1)) hb).trans ((fill_out _ 0 _ (by kernel_rfl)).trans rfl)
    have e2 : b.eval (.tmp 2) = .int .i64 x := (congrArg (fun x => Act.eval x (.tmp 2)) hb).trans ((fill_out _ 0 _ (by kernel_rfl)).trans rfl)
    have e3 : b.eval (.tmp 3) = .pointer (some ⟨w.heap.size, 0, none⟩) := (congrArg (fun x => Act.eval x (.tmp 3)) hb).trans ((fill_out _ 0 _ (by kernel_rfl)).trans rfl)
    have i10 : b.eval (.tmp 10) = vs 11 := (congrArg (fun x => Act.eval x (.tmp 10)) hb).trans ((fill_in _ 0 11 _ _ 10 (by kernel_rfl) rfl rfl (by simp)).trans (congrArg vs (Nat.zero_add _)))
    have i11 : b.eval (.tmp 11) = vs 0 := (congrArg (fun x => Act.eval x (.tmp 11)) hb).trans ((fill_in _ 0 0 _ _ 11 (by kernel_rfl) rfl rfl (by simp)).trans (congrArg vs (Nat.zero_add _)))
    have i12 : b.eval (.tmp 12) = vs 1 := (congrArg (fun x => Act.eval x (.tmp 12)) hb).trans ((fill_in _ 0 1 _ _ 12 (by kernel_rfl) rfl rfl (by simp)).trans (congrArg vs (Nat.zero_add _)))
    have i13 : b.eval (.tmp 13) = vs 2 := (congrArg (fun x => Act.eval x (.tmp 13)) hb).trans ((fill_in _ 0 2 _ _ 13 (by kernel_rfl) rfl rfl (by simp)).trans (congrArg vs (Nat.zero_add _)))
    have i14 : b.eval (.tmp 14) = vs 3 := (congrArg (fun x => Act.eval x (.tmp 14)) hb).trans ((fill_in _ 0 3 _ _ 14 (by kernel_rfl) rfl rfl (by simp)).trans (congrArg vs (Nat.zero_add _)))
    have i15 : b.eval (.tmp 15) = vs 4 := (congrArg (fun x => Act.eval x (.tmp 15)) hb).trans ((fill_in _ 0 4 _ _ 15 (by kernel_rfl) rfl rfl (by simp)).trans (congrArg vs (Nat.zero_add _)))
    have i16 : b.eval (.tmp 16) = vs 5 := (congrArg (fun x => Act.eval x (.tmp 16)) hb).trans ((fill_in _ 0 5 _ _ 16 (by kernel_rfl) rfl rfl (by simp)).trans (congrArg vs (Nat.zero_add _)))
    have i17 : b.eval (.tmp 17) = vs 6 := (congrArg (fun x => Act.eval x (.tmp 17)) hb).trans ((fill_in _ 0 6 _ _ 17 (by kernel_rfl) rfl rfl (by simp)).trans (congrArg vs (Nat.zero_add _)))
    have i18 : b.eval (.tmp 18) = vs 7 := (congrArg (fun x => Act.eval x (.tmp 18)) hb).trans ((fill_in _ 0 7 _ _ 18 (by kernel_rfl) rfl rfl (by simp)).trans (congrArg vs (Nat.zero_add _)))
    have i19 : b.eval (.tmp 19) = vs 8 := (congrArg (fun x => Act.eval x (.tmp 19)) hb).trans ((fill_in _ 0 8 _ _ 19 (by kernel_rfl) rfl rfl (by simp)).trans (congrArg vs (Nat.zero_add _)))
    have i20 : b.eval (.tmp 20) = vs 9 := (congrArg (fun x => Act.eval x (.tmp 20)) hb).trans ((fill_in _ 0 9 _ _ 20 (by kernel_rfl) rfl rfl (by simp)).trans (congrArg vs (Nat.zero_add _)))
    have i21 : b.eval (.tmp 21) = vs 10 := (congrArg (fun x => Act.eval x (.tmp 21)) hb).trans ((fill_in _ 0 10 _ _ 21 (by kernel_rfl) rfl rfl (by simp)).trans (congrArg vs (Nat.zero_add _)))
    have i22 : b.eval (.tmp 22) = vs 12 := (congrArg (fun x => Act.eval x (.tmp 22)) hb).trans ((fill_in _ 0 12 _ _ 22 (by kernel_rfl) rfl rfl (by simp)).trans (congrArg vs (Nat.zero_add _)))
    have i23 : b.eval (.tmp 23) = vs 13 := (congrArg (fun x => Act.eval x (.tmp 23)) hb).trans ((fill_in _ 0 13 _ _ 23 (by kernel_rfl) rfl rfl (by simp)).trans (congrArg vs (Nat.zero_add _)))
    clear hb
    refine And.intro ?_ (And.intro ?_ (And.intro ?_ (And.intro ?_ (And.intro ?_ (And.intro ?_ (And.intro ?_ (And.intro ?_ (And.intro ?_ (And.intro ?_ (And.intro ?_ (And.intro ?_ (And.intro ?_ (And.intro ?_ (And.intro ?_ (And.intro ?_ (trivial))))))))))))))))
    · intro hp K hK
      refine g_no rfl ?_
      exact st_field rfl (e3) (by kernel_rfl) (hK _ _ rfl hG (Below.refl _ _))
    · intro hp K hK
      refine g_no rfl ?_
      have e11 : b.eval (.tmp 11) = .pointer (some ⟨w.heap.size, 0, none⟩) := i11.trans (hp 0 (by kernel_rfl))
      exact st_load rfl (e11) (ldw0 hG.b0) (hK _ _ rfl hG (Below.refl _ _))
    · intro hp K hK
      refine g_no rfl ?_
      exact st_field rfl (e3) (by kernel_rfl) (hK _ _ rfl hG (Below.refl _ _))
    · intro hp K hK
      refine g_no rfl ?_
      have e13 : b.eval (.tmp 13) = .pointer (some ⟨w.heap.size, 2, none⟩) := i13.trans (hp 2 (by kernel_rfl))
      exact st_load rfl (e13) (ldw2 hG.b0) (hK _ _ rfl hG (Below.refl _ _))
    · intro hp K hK
      refine g_no rfl ?_
      exact st_field rfl (e3) (by kernel_rfl) (hK _ _ rfl hG (Below.refl _ _))
    · intro hp K hK
      refine g_no rfl ?_
      have e15 : b.eval (.tmp 15) = .pointer (some ⟨w.heap.size, 4, none⟩) := i15.trans (hp 4 (by kernel_rfl))
      exact st_load rfl (e15) (ldw4 hG.b0) (hK _ _ rfl hG (Below.refl _ _))
    · intro hp K hK
      refine g_no rfl ?_
      exact st_field rfl (e3) (by kernel_rfl) (hK _ _ rfl hG (Below.refl _ _))
    · intro hp K hK
      refine g_no rfl ?_
      have e17 : b.eval (.tmp 17) = .pointer (some ⟨w.heap.size, 6, none⟩) := i17.trans (hp 6 (by kernel_rfl))
      exact st_load rfl (e17) (ldw6 hG.b0) (hK _ _ rfl hG (Below.refl _ _))
    · intro hp K hK
      refine g_no rfl ?_
      exact st_move (.inl rfl) (e1) (hK _ _ rfl hG (Below.refl _ _))
    · intro hp K hK
      refine g_no rfl ?_
      exact st_move (.inl rfl) (e2) (hK _ _ rfl hG (Below.refl _ _))
    · intro hp K hK
      refine g_no rfl ?_
      have e12 : b.eval (.tmp 12) = .agg #[.int .i64 n0, .int .i64 n1] := i12.trans (hp 1 (by kernel_rfl))
      have e14 : b.eval (.tmp 14) = .agg #[.int .i64 k0, .int .i64 k1] := i14.trans (hp 3 (by kernel_rfl))
      have e16 : b.eval (.tmp 16) = .agg #[.int .i64 s0, .int .i64 s1] := i16.trans (hp 5 (by kernel_rfl))
      have e18 : b.eval (.tmp 18) = .agg #[.int .i64 p0, .int .i64 p1, .int .i64 p2, .int .i64 p3] := i18.trans (hp 7 (by kernel_rfl))
      have e19 : b.eval (.tmp 19) = .int .i64 y := i19.trans (hp 8 (by kernel_rfl))
      have e20 : b.eval (.tmp 20) = .int .i64 x := i20.trans (hp 9 (by kernel_rfl))
      refine st_call rfl (by first | (simp only [List.map_toArray, List.map_cons, List.map_nil, eval_const, e12, e14, e16, e18, e19, e20]; done) | (simp only [List.map_toArray, List.map_cons, List.map_nil, eval_const, e12, e14, e16, e18, e19, e20]; rfl)) (by kernel_rfl) ?_
      refine (Taps_bad n0 n1 k0 k1 s0 s1 p0 p1 p2 p3 y x _ H.out).mono ?_
      rintro e w' ⟨rfl, hb'⟩
      exact ⟨_, rfl, hK _ _ rfl (hG.step hb') hb'⟩
    · intro hp K hK
      refine g_no rfl ?_
      have e21 : b.eval (.tmp 21) = .tuple #[.slice none 0 0, .bool false] := i21.trans (hp 10 (by kernel_rfl))
      exact st_move (.inl rfl) (e21) (hK _ _ rfl hG (Below.refl _ _))
    · intro hp K hK
      refine g_no rfl ?_
      have e10 : b.eval (.tmp 10) = .tuple #[.slice none 0 0, .bool false] := i10.trans (hp 11 (by kernel_rfl))
      exact st_extract rfl (e10) (by kernel_rfl) (hK _ _ rfl hG (Below.refl _ _))
    · intro hp K hK
      refine g_no rfl ?_
      have e10 : b.eval (.tmp 10) = .tuple #[.slice none 0 0, .bool false] := i10.trans (hp 11 (by kernel_rfl))
      exact st_extract rfl (e10) (by kernel_rfl) (hK _ _ rfl hG (Below.refl _ _))
    · intro hp K hK
      refine g_no rfl ?_
      have e22 : b.eval (.tmp 22) = .slice none 0 0 := i22.trans (hp 12 (by kernel_rfl))
      exact st_move (.inr rfl) (e22) (hK _ _ rfl hG (Below.refl _ _))
    · intro hp K hK
      refine g_no rfl ?_
      have e23 : b.eval (.tmp 23) = .bool false := i23.trans (hp 13 (by kernel_rfl))
      exact st_move (.inr rfl) (e23) (hK _ _ rfl hG (Below.refl _ _))
  intro vs W hG hp b hb
  have q14 : vs 14 = .slice none 0 0 := hp 14 (by decide)
  have q15 : vs 15 = .bool false := hp 15 (by decide)
  clear hp
  simp only [fill, Act.put, List.append_eq, List.cons_append, List.nil_append, List.take_succ_cons, List.take_zero, List.setIfInBounds_toArray, List.set_cons_succ, List.set_cons_zero, Nat.reduceAdd, Nat.zero_add, q14, q15] at hb
  subst hb
  refine wpList_nil ?_
  clear q14 q15
  refine HK2.out _ _ ?_
  clear HK2
  apply wp_seq_k
  intro K3 hK3
  have HK3 := Lib.hid hK3
  clear hK3
  apply wp_seq_k
  intro K4 hK4
  have HK4 := Lib.hid hK4
  clear hK4
  refine wp_listed (R := fun W W' => Below W.heap.size W W') 10 [.val (.pointer (some ⟨w.heap.size, 0, none⟩)), .val (.agg #[.int .i64 n0, .int .i64 n1]), .val (.pointer (some ⟨w.heap.size, 2, none⟩)), .val (.agg #[.int .i64 k0, .int .i64 k1]), .val (.pointer (some ⟨w.heap.size, 4, none⟩)), .val (.agg #[.int .i64 s0, .int .i64 s1]), .val (.pointer (some ⟨w.heap.size, 6, none⟩)), .val (.agg #[.int .i64 p0, .int .i64 p1, .int .i64 p2, .int .i64 p3]), .val (.bool false), .val (.bool (!false))] (fun W => WS n0 n1 k0 k1 s0 s1 p0 p1 p2 p3 w W) (by kernel_rfl) hG ?_ ?_
  · intro vs W hG b hb
    have e3 : b.eval (.tmp 3) = .pointer (some ⟨w.heap.size, 0, none⟩) := (congrArg (fun x => Act.eval x (.tmp 3)) hb).trans ((fill_out _ 0 _ (by kernel_rfl)).trans rfl)
    have i24 : b.eval (.tmp 24) = vs 0 := (congrArg (fun x => Act.eval x (.tmp 24)) hb).trans ((fill_in _ 0 0 _ _ 24 (by kernel_rfl) rfl rfl (by simp)).trans (congrArg vs (Nat.zero_add _)))
    have i25 : b.eval (.tmp 25) = vs 1 := (congrArg (fun x => Act.eval x (.tmp 25)) hb).trans ((fill_in _ 0 1 _ _ 25 (by kernel_rfl) rfl rfl (by simp)).trans (congrArg vs (Nat.zero_add _)))
    have i26 : b.eval (.tmp 26) = vs 2 := (congrArg (fun x => Act.eval x (.tmp 26)) hb).trans ((fill_in _ 0 2 _ _ 26 (by kernel_rfl) rfl rfl (by simp)).trans (congrArg vs (Nat.zero_add _)))
    have i27 : b.eval (.tmp 27) = vs 3 := (congrArg (fun x => Act.eval x (.tmp 27)) hb).trans ((fill_in _ 0 3 _ _ 27 (by kernel_rfl) rfl rfl (by simp)).trans (congrArg vs (Nat.zero_add _)))
    have i28 : b.eval (.tmp 28) = vs 4 := (congrArg (fun x => Act.eval x (.tmp 28)) hb).trans ((fill_in _ 0 4 _ _ 28 (by kernel_rfl) rfl rfl (by simp)).trans (congrArg vs (Nat.zero_add _)))
    have i29 : b.eval (.tmp 29) = vs 5 := (congrArg (fun x => Act.eval x (.tmp 29)) hb).trans ((fill_in _ 0 5 _ _ 29 (by kernel_rfl) rfl rfl (by simp)).trans (congrArg vs (Nat.zero_add _)))
    have i30 : b.eval (.tmp 30) = vs 6 := (congrArg (fun x => Act.eval x (.tmp 30)) hb).trans ((fill_in _ 0 6 _ _ 30 (by kernel_rfl) rfl rfl (by simp)).trans (congrArg vs (Nat.zero_add _)))
    have i31 : b.eval (.tmp 31) = vs 7 := (congrArg (fun x => Act.eval x (.tmp 31)) hb).trans ((fill_in _ 0 7 _ _ 31 (by kernel_rfl) rfl rfl (by simp)).trans (congrArg vs (Nat.zero_add _)))
    have i32 : b.eval (.tmp 32) = vs 8 := (congrArg (fun x => Act.eval x (.tmp 32)) hb).trans ((fill_in _ 0 8 _ _ 32 (by kernel_rfl) rfl rfl (by simp)).trans (congrArg vs (Nat.zero_add _)))
    clear hb
    refine And.intro ?_ (And.intro ?_ (And.intro ?_ (And.intro ?_ (And.intro ?_ (And.intro ?_ (And.intro ?_ (And.intro ?_ (And.intro ?_ (And.intro ?_ (trivial))))))))))
    · intro hp K hK
      refine g_no rfl ?_
      exact st_field rfl (e3) (by kernel_rfl) (hK _ _ rfl hG (Below.refl _ _))
    · intro hp K hK
      refine g_no rfl ?_
      have e24 : b.eval (.tmp 24) = .pointer (some ⟨w.heap.size, 0, none⟩) := i24.trans (hp 0 (by kernel_rfl))
      exact st_load rfl (e24) (ldw0 hG.b0) (hK _ _ rfl hG (Below.refl _ _))
    · intro hp K hK
      refine g_no rfl ?_
      exact st_field rfl (e3) (by kernel_rfl) (hK _ _ rfl hG (Below.refl _ _))
    · intro hp K hK
      refine g_no rfl ?_
      have e26 : b.eval (.tmp 26) = .pointer (some ⟨w.heap.size, 2, none⟩) := i26.trans (hp 2 (by kernel_rfl))
      exact st_load rfl (e26) (ldw2 hG.b0) (hK _ _ rfl hG (Below.refl _ _))
    · intro hp K hK
      refine g_no rfl ?_
      exact st_field rfl (e3) (by kernel_rfl) (hK _ _ rfl hG (Below.refl _ _))
    · intro hp K hK
      refine g_no rfl ?_
      have e28 : b.eval (.tmp 28) = .pointer (some ⟨w.heap.size, 4, none⟩) := i28.trans (hp 4 (by kernel_rfl))
      exact st_load rfl (e28) (ldw4 hG.b0) (hK _ _ rfl hG (Below.refl _ _))
    · intro hp K hK
      refine g_no rfl ?_
      exact st_field rfl (e3) (by kernel_rfl) (hK _ _ rfl hG (Below.refl _ _))
    · intro hp K hK
      refine g_no rfl ?_
      have e30 : b.eval (.tmp 30) = .pointer (some ⟨w.heap.size, 6, none⟩) := i30.trans (hp 6 (by kernel_rfl))
      exact st_load rfl (e30) (ldw6 hG.b0) (hK _ _ rfl hG (Below.refl _ _))
    · intro hp K hK
      refine g_no rfl ?_
      have e25 : b.eval (.tmp 25) = .agg #[.int .i64 n0, .int .i64 n1] := i25.trans (hp 1 (by kernel_rfl))
      have e27 : b.eval (.tmp 27) = .agg #[.int .i64 k0, .int .i64 k1] := i27.trans (hp 3 (by kernel_rfl))
      have e29 : b.eval (.tmp 29) = .agg #[.int .i64 s0, .int .i64 s1] := i29.trans (hp 5 (by kernel_rfl))
      have e31 : b.eval (.tmp 31) = .agg #[.int .i64 p0, .int .i64 p1, .int .i64 p2, .int .i64 p3] := i31.trans (hp 7 (by kernel_rfl))
      refine st_call rfl (by first | (simp only [List.map_toArray, List.map_cons, List.map_nil, eval_const, e25, e27, e29, e31]; done) | (simp only [List.map_toArray, List.map_cons, List.map_nil, eval_const, e25, e27, e29, e31]; rfl)) (by kernel_rfl) ?_
      refine ((refGood n0 n1 k0 k1 s0 s1 p0 p1 p2 p3 _).mono (fun e w' h => ⟨h.1.trans (by rw [H.out]), h.2⟩ : ∀ e w', _ → (e = .returned (.bool false) ∧ Below _ _ w'))).mono ?_
      rintro e w' ⟨rfl, hb'⟩
      exact ⟨_, rfl, hK _ _ rfl (hG.step hb') hb'⟩
    · intro hp K hK
      refine g_no rfl ?_
      have e32 : b.eval (.tmp 32) = .bool false := i32.trans (hp 8 (by kernel_rfl))
      exact st_un rfl (e32) u_not (hK _ _ rfl hG (Below.refl _ _))
  intro vs W hG hp b hb
  have q9 : vs 9 = .bool (!false) := hp 9 (by decide)
  clear hp
  simp only [fill, Act.put, List.append_eq, List.cons_append, List.nil_append, List.take_succ_cons, List.take_zero, List.setIfInBounds_toArray, List.set_cons_succ, List.set_cons_zero, Nat.reduceAdd, Nat.zero_add, q9] at hb
  subst hb
  refine wpList_nil ?_
  clear q9
  refine HK4.out _ _ ?_
  clear HK4
  apply wp_cond_true rfl
  apply wp_seq_k
  intro K5 hK5
  have HK5 := Lib.hid hK5
  clear hK5
  refine wp_listed (R := fun W W' => Below W.heap.size W W') 11 [.val (.slice none 0 0), .val (.int .i64 0), .val (.bool true), .val (.bool true), .val ((bif ((true) == true) then (.bool false) else undef)), .val ((bif ((true) == true) then (.bool (!false)) else undef)), .val (.bool (true && (!false))), .val (.bool (true && (!false))), .val ((bif ((true && (!false)) == true) then (.bool true) else undef)), .val (.bool ((true && (!false)) && true)), .val (.bool ((true && (!false)) && true))] (fun W => WS n0 n1 k0 k1 s0 s1 p0 p1 p2 p3 w W) (by kernel_rfl) hG ?_ ?_
  · intro vs W hG b hb
    have e7 : b.eval (.tmp 7) = .slice none 0 0 := (congrArg (fun x => Act.eval x (.tmp 7)) hb).trans ((fill_out _ 0 _ (by kernel_rfl)).trans rfl)
    have e8 : b.eval (.tmp 8) = .bool false := (congrArg (fun x => Act.eval x (.tmp 8)) hb).trans ((fill_out _ 0 _ (by kernel_rfl)).trans rfl)
    have i34 : b.eval (.tmp 34) = vs 0 := (congrArg (fun x => Act.eval x (.tmp 34)) hb).trans ((fill_in _ 0 0 _ _ 34 (by kernel_rfl) rfl rfl (by simp)).trans (congrArg vs (Nat.zero_add _)))
    have i35 : b.eval (.tmp 35) = vs 1 := (congrArg (fun x => Act.eval x (.tmp 35)) hb).trans ((fill_in _ 0 1 _ _ 35 (by kernel_rfl) rfl rfl (by simp)).trans (congrArg vs (Nat.zero_add _)))
    have i36 : b.eval (.tmp 36) = vs 2 := (congrArg (fun x => Act.eval x (.tmp 36)) hb).trans ((fill_in _ 0 2 _ _ 36 (by kernel_rfl) rfl rfl (by simp)).trans (congrArg vs (Nat.zero_add _)))
    have i37 : b.eval (.tmp 37) = vs 3 := (congrArg (fun x => Act.eval x (.tmp 37)) hb).trans ((fill_in _ 0 3 _ _ 37 (by kernel_rfl) rfl rfl (by simp)).trans (congrArg vs (Nat.zero_add _)))
    have i38 : b.eval (.tmp 38) = vs 4 := (congrArg (fun x => Act.eval x (.tmp 38)) hb).trans ((fill_in _ 0 4 _ _ 38 (by kernel_rfl) rfl rfl (by simp)).trans (congrArg vs (Nat.zero_add _)))
    have i39 : b.eval (.tmp 39) = vs 5 := (congrArg (fun x => Act.eval x (.tmp 39)) hb).trans ((fill_in _ 0 5 _ _ 39 (by kernel_rfl) rfl rfl (by simp)).trans (congrArg vs (Nat.zero_add _)))
    have i40 : b.eval (.tmp 40) = vs 6 := (congrArg (fun x => Act.eval x (.tmp 40)) hb).trans ((fill_in _ 0 6 _ _ 40 (by kernel_rfl) rfl rfl (by simp)).trans (congrArg vs (Nat.zero_add _)))
    have i41 : b.eval (.tmp 41) = vs 7 := (congrArg (fun x => Act.eval x (.tmp 41)) hb).trans ((fill_in _ 0 7 _ _ 41 (by kernel_rfl) rfl rfl (by simp)).trans (congrArg vs (Nat.zero_add _)))
    have i42 : b.eval (.tmp 42) = vs 8 := (congrArg (fun x => Act.eval x (.tmp 42)) hb).trans ((fill_in _ 0 8 _ _ 42 (by kernel_rfl) rfl rfl (by simp)).trans (congrArg vs (Nat.zero_add _)))
    have i43 : b.eval (.tmp 43) = vs 9 := (congrArg (fun x => Act.eval x (.tmp 43)) hb).trans ((fill_in _ 0 9 _ _ 43 (by kernel_rfl) rfl rfl (by simp)).trans (congrArg vs (Nat.zero_add _)))
    clear hb
    refine And.intro ?_ (And.intro ?_ (And.intro ?_ (And.intro ?_ (And.intro ?_ (And.intro ?_ (And.intro ?_ (And.intro ?_ (And.intro ?_ (And.intro ?_ (And.intro ?_ (trivial)))))))))))
    · intro hp K hK
      refine g_no rfl ?_
      exact st_move (.inl rfl) (e7) (hK _ _ rfl hG (Below.refl _ _))
    · intro hp K hK
      refine g_no rfl ?_
      have e34 : b.eval (.tmp 34) = .slice none 0 0 := i34.trans (hp 0 (by kernel_rfl))
      exact st_builtin rfl (by first | (simp only [List.map_toArray, List.map_cons, List.map_nil, eval_const, e34]; done) | (simp only [List.map_toArray, List.map_cons, List.map_nil, eval_const, e34]; rfl)) (fun cs => (b_len cs _).trans rfl) (hK _ _ rfl hG (Below.refl _ _))
    · intro hp K hK
      refine g_no rfl ?_
      have e35 : b.eval (.tmp 35) = .int .i64 0 := i35.trans (hp 1 (by kernel_rfl))
      exact st_bin rfl (e35) (eval_const _) (b_eql.trans (by rfl)) (hK _ _ rfl hG (Below.refl _ _))
    · intro hp K hK
      refine g_no rfl ?_
      have e36 : b.eval (.tmp 36) = .bool true := i36.trans (hp 2 (by kernel_rfl))
      exact st_move (.inl rfl) (e36) (hK _ _ rfl hG (Below.refl _ _))
    · intro hp K hK
      refine g_is (j := 3) (want := true) (c := true) rfl (yielded_of (d := 37) rfl rfl (i37.trans (hp 3 (by kernel_rfl)))) (fun hb => ?_) (fun hb => hK _ _ (cond_no hb) hG (Below.refl _ _))
      exact st_move (.inl rfl) (e8) (hK _ _ (cond_yes hb).symm hG (Below.refl _ _))
    · intro hp K hK
      refine g_is (j := 3) (want := true) (c := true) rfl (yielded_of (d := 37) rfl rfl (i37.trans (hp 3 (by kernel_rfl)))) (fun hb => ?_) (fun hb => hK _ _ (cond_no hb) hG (Below.refl _ _))
      have e38 : b.eval (.tmp 38) = (bif ((true) == true) then (.bool false) else undef) := i38.trans (hp 4 (by kernel_rfl))
      replace e38 := e38.trans (cond_yes hb)
      exact st_un rfl (e38) u_not (hK _ _ (cond_yes hb).symm hG (Below.refl _ _))
    · intro hp K hK
      refine g_no rfl ?_
      have e37 : b.eval (.tmp 37) = .bool true := i37.trans (hp 3 (by kernel_rfl))
      have e39 : b.eval (.tmp 39) = (bif ((true) == true) then (.bool (!false)) else undef) := i39.trans (hp 5 (by kernel_rfl))
      exact st_pick rfl (e37) (by first | (rw [e39]; exact pick_and) | (rw [show b.eval (Operand.tmp 39) = _ from eval_const _]; exact pick_and)) (hK _ _ rfl hG (Below.refl _ _))
    · intro hp K hK
      refine g_no rfl ?_
      have e40 : b.eval (.tmp 40) = .bool (true && (!false)) := i40.trans (hp 6 (by kernel_rfl))
      exact st_move (.inl rfl) (e40) (hK _ _ rfl hG (Below.refl _ _))
    · intro hp K hK
      refine g_is (j := 7) (want := true) (c := true && (!false)) rfl (yielded_of (d := 41) rfl rfl (i41.trans (hp 7 (by kernel_rfl)))) (fun hb => ?_) (fun hb => hK _ _ (cond_no hb) hG (Below.refl _ _))
      refine st_call rfl (by first | (simp only [List.map_toArray, List.map_cons, List.map_nil, eval_const]; done) | (simp only [List.map_toArray, List.map_cons, List.map_nil, eval_const]; rfl)) (by kernel_rfl) ?_
      refine (lives_is _).mono ?_
      rintro e w' ⟨rfl, hb'⟩
      exact ⟨_, rfl, hK _ _ (cond_yes hb).symm (hG.step hb') hb'⟩
    · intro hp K hK
      refine g_no rfl ?_
      have e41 : b.eval (.tmp 41) = .bool (true && (!false)) := i41.trans (hp 7 (by kernel_rfl))
      have e42 : b.eval (.tmp 42) = (bif ((true && (!false)) == true) then (.bool true) else undef) := i42.trans (hp 8 (by kernel_rfl))
      exact st_pick rfl (e41) (by first | (rw [e42]; exact pick_and) | (rw [show b.eval (Operand.tmp 42) = _ from eval_const _]; exact pick_and)) (hK _ _ rfl hG (Below.refl _ _))
    · intro hp K hK
      refine g_no rfl ?_
      have e43 : b.eval (.tmp 43) = .bool ((true && (!false)) && true) := i43.trans (hp 9 (by kernel_rfl))
      exact st_move (.inr rfl) (e43) (hK _ _ rfl hG (Below.refl _ _))
  intro vs W hG hp b hb
  have q10 : vs 10 = .bool ((true && (!false)) && true) := hp 10 (by decide)
  clear hp
  simp only [fill, Act.put, List.append_eq, List.cons_append, List.nil_append, List.take_succ_cons, List.take_zero, List.setIfInBounds_toArray, List.set_cons_succ, List.set_cons_zero, Nat.reduceAdd, Nat.zero_add, q10] at hb
  subst hb
  refine wpList_nil ?_
  clear q10
  refine HK5.out _ _ ?_
  clear HK5
  have hG := Lib.hid hG
  go_wp2
  go_ret
  exact ⟨rfl, hG.out.bel⟩
set_option maxHeartbeats 8000000 in
theorem tapsl_out (n0 n1 k0 k1 s0 s1 p0 p1 p2 p3 y x : Int) (w : World) (h : goodV n0 n1 k0 k1 s0 s1 p0 p1 p2 p3 = true) (hyx : Wd y ∧ Wd x) (ho : wiB y x (outV n0 k0 s0 p0 p2) (outV n1 k1 s1 p1 p3) = false) : Calls Try.prog 9 #[.agg #[.int .i64 n0, .int .i64 n1, .int .i64 k0, .int .i64 k1, .int .i64 s0, .int .i64 s1, .int .i64 p0, .int .i64 p1, .int .i64 p2, .int .i64 p3], .int .i64 y, .int .i64 x] w (fun e w' => e = .returned (.bool true) ∧ Below w.heap.size w w') := by
  have H := Lib.hid h
  clear h
  have HO := Lib.hid ho
  clear ho
  have J := Lib.hid (WS.start n0 n1 k0 k1 s0 s1 p0 p1 p2 p3 w)
  go_enter Try.func9, Try.ntmps9
  apply wp_seq_k
  intro K1 hK1
  have HK1 := Lib.hid hK1
  clear hK1
  go_wp2
  refine HK1.out _ _ ?_
  clear HK1
  generalize w.alloc (win n0 n1 k0 k1 s0 s1 p0 p1 p2 p3) = u0 at *
  replace J := J.out
  apply wp_seq_k
  intro K2 hK2
  have HK2 := Lib.hid hK2
  clear hK2
  refine wp_listed (R := fun W W' => Below W.heap.size W W') 16 [.val (.pointer (some ⟨w.heap.size, 0, none⟩)), .val (.agg #[.int .i64 n0, .int .i64 n1]), .val (.pointer (some ⟨w.heap.size, 2, none⟩)), .val (.agg #[.int .i64 k0, .int .i64 k1]), .val (.pointer (some ⟨w.heap.size, 4, none⟩)), .val (.agg #[.int .i64 s0, .int .i64 s1]), .val (.pointer (some ⟨w.heap.size, 6, none⟩)), .val (.agg #[.int .i64 p0, .int .i64 p1, .int .i64 p2, .int .i64 p3]), .val (.int .i64 y), .val (.int .i64 x), .val (.tuple #[.slice none 0 0, .bool false]), .val (.tuple #[.slice none 0 0, .bool false]), .val (.slice none 0 0), .val (.bool false), .val (.slice none 0 0), .val (.bool false)] (fun W => WS n0 n1 k0 k1 s0 s1 p0 p1 p2 p3 w W) (by kernel_rfl) J ?_ ?_
  · intro vs W hG b hb
    have e1 : b.eval (.tmp 1) = .int .i64 y := (congrArg (fun x => Act.eval x (.tmp 1)) hb).trans ((fill_out _ 0 _ (by kernel_rfl)).trans rfl)
    have e2 : b.eval (.tmp 2) = .int .i64 x := (congrArg (fun x => Act.eval x (.tmp 2)) hb).trans ((fill_out _ 0 _ (by kernel_rfl)).trans rfl)
    have e3 : b.eval (.tmp 3) = .pointer (some ⟨w.heap.size, 0, none⟩) := (congrArg (fun x => Act.eval x (.tmp 3)) hb).trans ((fill_out _ 0 _ (by kernel_rfl)).trans rfl)
    have i10 : b.eval (.tmp 10) = vs 11 := (congrArg (fun x => Act.eval x (.tmp 10)) hb).trans ((fill_in _ 0 11 _ _ 10 (by kernel_rfl) rfl rfl (by simp)).trans (congrArg vs (Nat.zero_add _)))
    have i11 : b.eval (.tmp 11) = vs 0 := (congrArg (fun x => Act.eval x (.tmp 11)) hb).trans ((fill_in _ 0 0 _ _ 11 (by kernel_rfl) rfl rfl (by simp)).trans (congrArg vs (Nat.zero_add _)))
    have i12 : b.eval (.tmp 12) = vs 1 := (congrArg (fun x => Act.eval x (.tmp 12)) hb).trans ((fill_in _ 0 1 _ _ 12 (by kernel_rfl) rfl rfl (by simp)).trans (congrArg vs (Nat.zero_add _)))
    have i13 : b.eval (.tmp 13) = vs 2 := (congrArg (fun x => Act.eval x (.tmp 13)) hb).trans ((fill_in _ 0 2 _ _ 13 (by kernel_rfl) rfl rfl (by simp)).trans (congrArg vs (Nat.zero_add _)))
    have i14 : b.eval (.tmp 14) = vs 3 := (congrArg (fun x => Act.eval x (.tmp 14)) hb).trans ((fill_in _ 0 3 _ _ 14 (by kernel_rfl) rfl rfl (by simp)).trans (congrArg vs (Nat.zero_add _)))
    have i15 : b.eval (.tmp 15) = vs 4 := (congrArg (fun x => Act.eval x (.tmp 15)) hb).trans ((fill_in _ 0 4 _ _ 15 (by kernel_rfl) rfl rfl (by simp)).trans (congrArg vs (Nat.zero_add _)))
    have i16 : b.eval (.tmp 16) = vs 5 := (congrArg (fun x => Act.eval x (.tmp 16)) hb).trans ((fill_in _ 0 5 _ _ 16 (by kernel_rfl) rfl rfl (by simp)).trans (congrArg vs (Nat.zero_add _)))
    have i17 : b.eval (.tmp 17) = vs 6 := (congrArg (fun x => Act.eval x (.tmp 17)) hb).trans ((fill_in _ 0 6 _ _ 17 (by kernel_rfl) rfl rfl (by simp)).trans (congrArg vs (Nat.zero_add _)))
    have i18 : b.eval (.tmp 18) = vs 7 := (congrArg (fun x => Act.eval x (.tmp 18)) hb).trans ((fill_in _ 0 7 _ _ 18 (by kernel_rfl) rfl rfl (by simp)).trans (congrArg vs (Nat.zero_add _)))
    have i19 : b.eval (.tmp 19) = vs 8 := (congrArg (fun x => Act.eval x (.tmp 19)) hb).trans ((fill_in _ 0 8 _ _ 19 (by kernel_rfl) rfl rfl (by simp)).trans (congrArg vs (Nat.zero_add _)))
    have i20 : b.eval (.tmp 20) = vs 9 := (congrArg (fun x => Act.eval x (.tmp 20)) hb).trans ((fill_in _ 0 9 _ _ 20 (by kernel_rfl) rfl rfl (by simp)).trans (congrArg vs (Nat.zero_add _)))
    have i21 : b.eval (.tmp 21) = vs 10 := (congrArg (fun x => Act.eval x (.tmp 21)) hb).trans ((fill_in _ 0 10 _ _ 21 (by kernel_rfl) rfl rfl (by simp)).trans (congrArg vs (Nat.zero_add _)))
    have i22 : b.eval (.tmp 22) = vs 12 := (congrArg (fun x => Act.eval x (.tmp 22)) hb).trans ((fill_in _ 0 12 _ _ 22 (by kernel_rfl) rfl rfl (by simp)).trans (congrArg vs (Nat.zero_add _)))
    have i23 : b.eval (.tmp 23) = vs 13 := (congrArg (fun x => Act.eval x (.tmp 23)) hb).trans ((fill_in _ 0 13 _ _ 23 (by kernel_rfl) rfl rfl (by simp)).trans (congrArg vs (Nat.zero_add _)))
    clear hb
    refine And.intro ?_ (And.intro ?_ (And.intro ?_ (And.intro ?_ (And.intro ?_ (And.intro ?_ (And.intro ?_ (And.intro ?_ (And.intro ?_ (And.intro ?_ (And.intro ?_ (And.intro ?_ (And.intro ?_ (And.intro ?_ (And.intro ?_ (And.intro ?_ (trivial))))))))))))))))
    · intro hp K hK
      refine g_no rfl ?_
      exact st_field rfl (e3) (by kernel_rfl) (hK _ _ rfl hG (Below.refl _ _))
    · intro hp K hK
      refine g_no rfl ?_
      have e11 : b.eval (.tmp 11) = .pointer (some ⟨w.heap.size, 0, none⟩) := i11.trans (hp 0 (by kernel_rfl))
      exact st_load rfl (e11) (ldw0 hG.b0) (hK _ _ rfl hG (Below.refl _ _))
    · intro hp K hK
      refine g_no rfl ?_
      exact st_field rfl (e3) (by kernel_rfl) (hK _ _ rfl hG (Below.refl _ _))
    · intro hp K hK
      refine g_no rfl ?_
      have e13 : b.eval (.tmp 13) = .pointer (some ⟨w.heap.size, 2, none⟩) := i13.trans (hp 2 (by kernel_rfl))
      exact st_load rfl (e13) (ldw2 hG.b0) (hK _ _ rfl hG (Below.refl _ _))
    · intro hp K hK
      refine g_no rfl ?_
      exact st_field rfl (e3) (by kernel_rfl) (hK _ _ rfl hG (Below.refl _ _))
    · intro hp K hK
      refine g_no rfl ?_
      have e15 : b.eval (.tmp 15) = .pointer (some ⟨w.heap.size, 4, none⟩) := i15.trans (hp 4 (by kernel_rfl))
      exact st_load rfl (e15) (ldw4 hG.b0) (hK _ _ rfl hG (Below.refl _ _))
    · intro hp K hK
      refine g_no rfl ?_
      exact st_field rfl (e3) (by kernel_rfl) (hK _ _ rfl hG (Below.refl _ _))
    · intro hp K hK
      refine g_no rfl ?_
      have e17 : b.eval (.tmp 17) = .pointer (some ⟨w.heap.size, 6, none⟩) := i17.trans (hp 6 (by kernel_rfl))
      exact st_load rfl (e17) (ldw6 hG.b0) (hK _ _ rfl hG (Below.refl _ _))
    · intro hp K hK
      refine g_no rfl ?_
      exact st_move (.inl rfl) (e1) (hK _ _ rfl hG (Below.refl _ _))
    · intro hp K hK
      refine g_no rfl ?_
      exact st_move (.inl rfl) (e2) (hK _ _ rfl hG (Below.refl _ _))
    · intro hp K hK
      refine g_no rfl ?_
      have e12 : b.eval (.tmp 12) = .agg #[.int .i64 n0, .int .i64 n1] := i12.trans (hp 1 (by kernel_rfl))
      have e14 : b.eval (.tmp 14) = .agg #[.int .i64 k0, .int .i64 k1] := i14.trans (hp 3 (by kernel_rfl))
      have e16 : b.eval (.tmp 16) = .agg #[.int .i64 s0, .int .i64 s1] := i16.trans (hp 5 (by kernel_rfl))
      have e18 : b.eval (.tmp 18) = .agg #[.int .i64 p0, .int .i64 p1, .int .i64 p2, .int .i64 p3] := i18.trans (hp 7 (by kernel_rfl))
      have e19 : b.eval (.tmp 19) = .int .i64 y := i19.trans (hp 8 (by kernel_rfl))
      have e20 : b.eval (.tmp 20) = .int .i64 x := i20.trans (hp 9 (by kernel_rfl))
      refine st_call rfl (by first | (simp only [List.map_toArray, List.map_cons, List.map_nil, eval_const, e12, e14, e16, e18, e19, e20]; done) | (simp only [List.map_toArray, List.map_cons, List.map_nil, eval_const, e12, e14, e16, e18, e19, e20]; rfl)) (by kernel_rfl) ?_
      refine (Taps_out n0 n1 k0 k1 s0 s1 p0 p1 p2 p3 y x _ H.out hyx HO.out).mono ?_
      rintro e w' ⟨rfl, hb'⟩
      exact ⟨_, rfl, hK _ _ rfl (hG.step hb') hb'⟩
    · intro hp K hK
      refine g_no rfl ?_
      have e21 : b.eval (.tmp 21) = .tuple #[.slice none 0 0, .bool false] := i21.trans (hp 10 (by kernel_rfl))
      exact st_move (.inl rfl) (e21) (hK _ _ rfl hG (Below.refl _ _))
    · intro hp K hK
      refine g_no rfl ?_
      have e10 : b.eval (.tmp 10) = .tuple #[.slice none 0 0, .bool false] := i10.trans (hp 11 (by kernel_rfl))
      exact st_extract rfl (e10) (by kernel_rfl) (hK _ _ rfl hG (Below.refl _ _))
    · intro hp K hK
      refine g_no rfl ?_
      have e10 : b.eval (.tmp 10) = .tuple #[.slice none 0 0, .bool false] := i10.trans (hp 11 (by kernel_rfl))
      exact st_extract rfl (e10) (by kernel_rfl) (hK _ _ rfl hG (Below.refl _ _))
    · intro hp K hK
      refine g_no rfl ?_
      have e22 : b.eval (.tmp 22) = .slice none 0 0 := i22.trans (hp 12 (by kernel_rfl))
      exact st_move (.inr rfl) (e22) (hK _ _ rfl hG (Below.refl _ _))
    · intro hp K hK
      refine g_no rfl ?_
      have e23 : b.eval (.tmp 23) = .bool false := i23.trans (hp 13 (by kernel_rfl))
      exact st_move (.inr rfl) (e23) (hK _ _ rfl hG (Below.refl _ _))
  intro vs W hG hp b hb
  have q14 : vs 14 = .slice none 0 0 := hp 14 (by decide)
  have q15 : vs 15 = .bool false := hp 15 (by decide)
  clear hp
  simp only [fill, Act.put, List.append_eq, List.cons_append, List.nil_append, List.take_succ_cons, List.take_zero, List.setIfInBounds_toArray, List.set_cons_succ, List.set_cons_zero, Nat.reduceAdd, Nat.zero_add, q14, q15] at hb
  subst hb
  refine wpList_nil ?_
  clear q14 q15
  refine HK2.out _ _ ?_
  clear HK2
  apply wp_seq_k
  intro K3 hK3
  have HK3 := Lib.hid hK3
  clear hK3
  apply wp_seq_k
  intro K4 hK4
  have HK4 := Lib.hid hK4
  clear hK4
  refine wp_listed (R := fun W W' => Below W.heap.size W W') 10 [.val (.pointer (some ⟨w.heap.size, 0, none⟩)), .val (.agg #[.int .i64 n0, .int .i64 n1]), .val (.pointer (some ⟨w.heap.size, 2, none⟩)), .val (.agg #[.int .i64 k0, .int .i64 k1]), .val (.pointer (some ⟨w.heap.size, 4, none⟩)), .val (.agg #[.int .i64 s0, .int .i64 s1]), .val (.pointer (some ⟨w.heap.size, 6, none⟩)), .val (.agg #[.int .i64 p0, .int .i64 p1, .int .i64 p2, .int .i64 p3]), .val (.bool true), .val (.bool (!true))] (fun W => WS n0 n1 k0 k1 s0 s1 p0 p1 p2 p3 w W) (by kernel_rfl) hG ?_ ?_
  · intro vs W hG b hb
    have e3 : b.eval (.tmp 3) = .pointer (some ⟨w.heap.size, 0, none⟩) := (congrArg (fun x => Act.eval x (.tmp 3)) hb).trans ((fill_out _ 0 _ (by kernel_rfl)).trans rfl)
    have i24 : b.eval (.tmp 24) = vs 0 := (congrArg (fun x => Act.eval x (.tmp 24)) hb).trans ((fill_in _ 0 0 _ _ 24 (by kernel_rfl) rfl rfl (by simp)).trans (congrArg vs (Nat.zero_add _)))
    have i25 : b.eval (.tmp 25) = vs 1 := (congrArg (fun x => Act.eval x (.tmp 25)) hb).trans ((fill_in _ 0 1 _ _ 25 (by kernel_rfl) rfl rfl (by simp)).trans (congrArg vs (Nat.zero_add _)))
    have i26 : b.eval (.tmp 26) = vs 2 := (congrArg (fun x => Act.eval x (.tmp 26)) hb).trans ((fill_in _ 0 2 _ _ 26 (by kernel_rfl) rfl rfl (by simp)).trans (congrArg vs (Nat.zero_add _)))
    have i27 : b.eval (.tmp 27) = vs 3 := (congrArg (fun x => Act.eval x (.tmp 27)) hb).trans ((fill_in _ 0 3 _ _ 27 (by kernel_rfl) rfl rfl (by simp)).trans (congrArg vs (Nat.zero_add _)))
    have i28 : b.eval (.tmp 28) = vs 4 := (congrArg (fun x => Act.eval x (.tmp 28)) hb).trans ((fill_in _ 0 4 _ _ 28 (by kernel_rfl) rfl rfl (by simp)).trans (congrArg vs (Nat.zero_add _)))
    have i29 : b.eval (.tmp 29) = vs 5 := (congrArg (fun x => Act.eval x (.tmp 29)) hb).trans ((fill_in _ 0 5 _ _ 29 (by kernel_rfl) rfl rfl (by simp)).trans (congrArg vs (Nat.zero_add _)))
    have i30 : b.eval (.tmp 30) = vs 6 := (congrArg (fun x => Act.eval x (.tmp 30)) hb).trans ((fill_in _ 0 6 _ _ 30 (by kernel_rfl) rfl rfl (by simp)).trans (congrArg vs (Nat.zero_add _)))
    have i31 : b.eval (.tmp 31) = vs 7 := (congrArg (fun x => Act.eval x (.tmp 31)) hb).trans ((fill_in _ 0 7 _ _ 31 (by kernel_rfl) rfl rfl (by simp)).trans (congrArg vs (Nat.zero_add _)))
    have i32 : b.eval (.tmp 32) = vs 8 := (congrArg (fun x => Act.eval x (.tmp 32)) hb).trans ((fill_in _ 0 8 _ _ 32 (by kernel_rfl) rfl rfl (by simp)).trans (congrArg vs (Nat.zero_add _)))
    clear hb
    refine And.intro ?_ (And.intro ?_ (And.intro ?_ (And.intro ?_ (And.intro ?_ (And.intro ?_ (And.intro ?_ (And.intro ?_ (And.intro ?_ (And.intro ?_ (trivial))))))))))
    · intro hp K hK
      refine g_no rfl ?_
      exact st_field rfl (e3) (by kernel_rfl) (hK _ _ rfl hG (Below.refl _ _))
    · intro hp K hK
      refine g_no rfl ?_
      have e24 : b.eval (.tmp 24) = .pointer (some ⟨w.heap.size, 0, none⟩) := i24.trans (hp 0 (by kernel_rfl))
      exact st_load rfl (e24) (ldw0 hG.b0) (hK _ _ rfl hG (Below.refl _ _))
    · intro hp K hK
      refine g_no rfl ?_
      exact st_field rfl (e3) (by kernel_rfl) (hK _ _ rfl hG (Below.refl _ _))
    · intro hp K hK
      refine g_no rfl ?_
      have e26 : b.eval (.tmp 26) = .pointer (some ⟨w.heap.size, 2, none⟩) := i26.trans (hp 2 (by kernel_rfl))
      exact st_load rfl (e26) (ldw2 hG.b0) (hK _ _ rfl hG (Below.refl _ _))
    · intro hp K hK
      refine g_no rfl ?_
      exact st_field rfl (e3) (by kernel_rfl) (hK _ _ rfl hG (Below.refl _ _))
    · intro hp K hK
      refine g_no rfl ?_
      have e28 : b.eval (.tmp 28) = .pointer (some ⟨w.heap.size, 4, none⟩) := i28.trans (hp 4 (by kernel_rfl))
      exact st_load rfl (e28) (ldw4 hG.b0) (hK _ _ rfl hG (Below.refl _ _))
    · intro hp K hK
      refine g_no rfl ?_
      exact st_field rfl (e3) (by kernel_rfl) (hK _ _ rfl hG (Below.refl _ _))
    · intro hp K hK
      refine g_no rfl ?_
      have e30 : b.eval (.tmp 30) = .pointer (some ⟨w.heap.size, 6, none⟩) := i30.trans (hp 6 (by kernel_rfl))
      exact st_load rfl (e30) (ldw6 hG.b0) (hK _ _ rfl hG (Below.refl _ _))
    · intro hp K hK
      refine g_no rfl ?_
      have e25 : b.eval (.tmp 25) = .agg #[.int .i64 n0, .int .i64 n1] := i25.trans (hp 1 (by kernel_rfl))
      have e27 : b.eval (.tmp 27) = .agg #[.int .i64 k0, .int .i64 k1] := i27.trans (hp 3 (by kernel_rfl))
      have e29 : b.eval (.tmp 29) = .agg #[.int .i64 s0, .int .i64 s1] := i29.trans (hp 5 (by kernel_rfl))
      have e31 : b.eval (.tmp 31) = .agg #[.int .i64 p0, .int .i64 p1, .int .i64 p2, .int .i64 p3] := i31.trans (hp 7 (by kernel_rfl))
      refine st_call rfl (by first | (simp only [List.map_toArray, List.map_cons, List.map_nil, eval_const, e25, e27, e29, e31]; done) | (simp only [List.map_toArray, List.map_cons, List.map_nil, eval_const, e25, e27, e29, e31]; rfl)) (by kernel_rfl) ?_
      refine ((refGood n0 n1 k0 k1 s0 s1 p0 p1 p2 p3 _).mono (fun e w' h => ⟨h.1.trans (by rw [H.out]), h.2⟩ : ∀ e w', _ → (e = .returned (.bool true) ∧ Below _ _ w'))).mono ?_
      rintro e w' ⟨rfl, hb'⟩
      exact ⟨_, rfl, hK _ _ rfl (hG.step hb') hb'⟩
    · intro hp K hK
      refine g_no rfl ?_
      have e32 : b.eval (.tmp 32) = .bool true := i32.trans (hp 8 (by kernel_rfl))
      exact st_un rfl (e32) u_not (hK _ _ rfl hG (Below.refl _ _))
  intro vs W hG hp b hb
  have q9 : vs 9 = .bool (!true) := hp 9 (by decide)
  clear hp
  simp only [fill, Act.put, List.append_eq, List.cons_append, List.nil_append, List.take_succ_cons, List.take_zero, List.setIfInBounds_toArray, List.set_cons_succ, List.set_cons_zero, Nat.reduceAdd, Nat.zero_add, q9] at hb
  subst hb
  refine wpList_nil ?_
  clear q9
  refine HK4.out _ _ ?_
  clear HK4
  apply wp_cond_false rfl
  apply wp_skip
  simp only [Exit.then]
  refine HK3.out _ _ ?_
  clear HK3
  apply wp_seq_k
  intro K5 hK5
  have HK5 := Lib.hid hK5
  clear hK5
  have hW0 := hG
  clear hG
  generalize hWc : W = Wc at hW0 ⊢
  clear hWc
  refine wp_listed (R := fun W W' => Below W.heap.size W W') 10 [.val (.pointer (some ⟨w.heap.size, 0, none⟩)), .val (.agg #[.int .i64 n0, .int .i64 n1]), .val (.pointer (some ⟨w.heap.size, 2, none⟩)), .val (.agg #[.int .i64 k0, .int .i64 k1]), .val (.pointer (some ⟨w.heap.size, 4, none⟩)), .val (.agg #[.int .i64 s0, .int .i64 s1]), .val (.pointer (some ⟨w.heap.size, 6, none⟩)), .val (.agg #[.int .i64 p0, .int .i64 p1, .int .i64 p2, .int .i64 p3]), .val (.agg #[.int .i64 (outV n0 k0 s0 p0 p2), .int .i64 (outV n1 k1 s1 p1 p3)]), newSpec (box2 0 0) (Wc.heap.size)] (fun W => Below Wc.heap.size Wc W) (by kernel_rfl) (Below.refl _ _) ?_ ?_
  · intro vs W hG b hb
    have e3 : b.eval (.tmp 3) = .pointer (some ⟨w.heap.size, 0, none⟩) := (congrArg (fun x => Act.eval x (.tmp 3)) hb).trans ((fill_out _ 0 _ (by kernel_rfl)).trans rfl)
    have i44 : b.eval (.tmp 44) = vs 0 := (congrArg (fun x => Act.eval x (.tmp 44)) hb).trans ((fill_in _ 0 0 _ _ 44 (by kernel_rfl) rfl rfl (by simp)).trans (congrArg vs (Nat.zero_add _)))
    have i45 : b.eval (.tmp 45) = vs 1 := (congrArg (fun x => Act.eval x (.tmp 45)) hb).trans ((fill_in _ 0 1 _ _ 45 (by kernel_rfl) rfl rfl (by simp)).trans (congrArg vs (Nat.zero_add _)))
    have i46 : b.eval (.tmp 46) = vs 2 := (congrArg (fun x => Act.eval x (.tmp 46)) hb).trans ((fill_in _ 0 2 _ _ 46 (by kernel_rfl) rfl rfl (by simp)).trans (congrArg vs (Nat.zero_add _)))
    have i47 : b.eval (.tmp 47) = vs 3 := (congrArg (fun x => Act.eval x (.tmp 47)) hb).trans ((fill_in _ 0 3 _ _ 47 (by kernel_rfl) rfl rfl (by simp)).trans (congrArg vs (Nat.zero_add _)))
    have i48 : b.eval (.tmp 48) = vs 4 := (congrArg (fun x => Act.eval x (.tmp 48)) hb).trans ((fill_in _ 0 4 _ _ 48 (by kernel_rfl) rfl rfl (by simp)).trans (congrArg vs (Nat.zero_add _)))
    have i49 : b.eval (.tmp 49) = vs 5 := (congrArg (fun x => Act.eval x (.tmp 49)) hb).trans ((fill_in _ 0 5 _ _ 49 (by kernel_rfl) rfl rfl (by simp)).trans (congrArg vs (Nat.zero_add _)))
    have i50 : b.eval (.tmp 50) = vs 6 := (congrArg (fun x => Act.eval x (.tmp 50)) hb).trans ((fill_in _ 0 6 _ _ 50 (by kernel_rfl) rfl rfl (by simp)).trans (congrArg vs (Nat.zero_add _)))
    have i51 : b.eval (.tmp 51) = vs 7 := (congrArg (fun x => Act.eval x (.tmp 51)) hb).trans ((fill_in _ 0 7 _ _ 51 (by kernel_rfl) rfl rfl (by simp)).trans (congrArg vs (Nat.zero_add _)))
    clear hb
    refine And.intro ?_ (And.intro ?_ (And.intro ?_ (And.intro ?_ (And.intro ?_ (And.intro ?_ (And.intro ?_ (And.intro ?_ (And.intro ?_ (And.intro ?_ (trivial))))))))))
    · intro hp K hK
      refine g_no rfl ?_
      exact st_field rfl (e3) (by kernel_rfl) (hK _ _ rfl hG (Below.refl _ _))
    · intro hp K hK
      refine g_no rfl ?_
      have e44 : b.eval (.tmp 44) = .pointer (some ⟨w.heap.size, 0, none⟩) := i44.trans (hp 0 (by kernel_rfl))
      exact st_load rfl (e44) (ldw0 (blk_below hW0.b0 hG)) (hK _ _ rfl hG (Below.refl _ _))
    · intro hp K hK
      refine g_no rfl ?_
      exact st_field rfl (e3) (by kernel_rfl) (hK _ _ rfl hG (Below.refl _ _))
    · intro hp K hK
      refine g_no rfl ?_
      have e46 : b.eval (.tmp 46) = .pointer (some ⟨w.heap.size, 2, none⟩) := i46.trans (hp 2 (by kernel_rfl))
      exact st_load rfl (e46) (ldw2 (blk_below hW0.b0 hG)) (hK _ _ rfl hG (Below.refl _ _))
    · intro hp K hK
      refine g_no rfl ?_
      exact st_field rfl (e3) (by kernel_rfl) (hK _ _ rfl hG (Below.refl _ _))
    · intro hp K hK
      refine g_no rfl ?_
      have e48 : b.eval (.tmp 48) = .pointer (some ⟨w.heap.size, 4, none⟩) := i48.trans (hp 4 (by kernel_rfl))
      exact st_load rfl (e48) (ldw4 (blk_below hW0.b0 hG)) (hK _ _ rfl hG (Below.refl _ _))
    · intro hp K hK
      refine g_no rfl ?_
      exact st_field rfl (e3) (by kernel_rfl) (hK _ _ rfl hG (Below.refl _ _))
    · intro hp K hK
      refine g_no rfl ?_
      have e50 : b.eval (.tmp 50) = .pointer (some ⟨w.heap.size, 6, none⟩) := i50.trans (hp 6 (by kernel_rfl))
      exact st_load rfl (e50) (ldw6 (blk_below hW0.b0 hG)) (hK _ _ rfl hG (Below.refl _ _))
    · intro hp K hK
      refine g_no rfl ?_
      have e45 : b.eval (.tmp 45) = .agg #[.int .i64 n0, .int .i64 n1] := i45.trans (hp 1 (by kernel_rfl))
      have e47 : b.eval (.tmp 47) = .agg #[.int .i64 k0, .int .i64 k1] := i47.trans (hp 3 (by kernel_rfl))
      have e49 : b.eval (.tmp 49) = .agg #[.int .i64 s0, .int .i64 s1] := i49.trans (hp 5 (by kernel_rfl))
      have e51 : b.eval (.tmp 51) = .agg #[.int .i64 p0, .int .i64 p1, .int .i64 p2, .int .i64 p3] := i51.trans (hp 7 (by kernel_rfl))
      refine st_call rfl (by first | (simp only [List.map_toArray, List.map_cons, List.map_nil, eval_const, e45, e47, e49, e51]; done) | (simp only [List.map_toArray, List.map_cons, List.map_nil, eval_const, e45, e47, e49, e51]; rfl)) (by kernel_rfl) ?_
      refine (refOut n0 n1 k0 k1 s0 s1 p0 p1 p2 p3 _ H.out).mono ?_
      rintro e w' ⟨rfl, hb'⟩
      exact ⟨_, rfl, hK _ _ rfl (hG.trans (hb'.mono hG.size)) hb'⟩
    · intro hp K hK
      refine g_no rfl ?_
      exact st_alloc rfl (new2 _) (hK _ _ ⟨_, rfl, blk_new _ _, hG.size⟩ (hG.alloc hG.size _) ((Below.refl _ _).alloc (Nat.le_refl _) _))
  intro vs W hG hp b hb
  have q0 : vs 0 = .pointer (some ⟨w.heap.size, 0, none⟩) := hp 0 (by decide)
  have q1 : vs 1 = .agg #[.int .i64 n0, .int .i64 n1] := hp 1 (by decide)
  have q2 : vs 2 = .pointer (some ⟨w.heap.size, 2, none⟩) := hp 2 (by decide)
  have q3 : vs 3 = .agg #[.int .i64 k0, .int .i64 k1] := hp 3 (by decide)
  have q4 : vs 4 = .pointer (some ⟨w.heap.size, 4, none⟩) := hp 4 (by decide)
  have q5 : vs 5 = .agg #[.int .i64 s0, .int .i64 s1] := hp 5 (by decide)
  have q6 : vs 6 = .pointer (some ⟨w.heap.size, 6, none⟩) := hp 6 (by decide)
  have q7 : vs 7 = .agg #[.int .i64 p0, .int .i64 p1, .int .i64 p2, .int .i64 p3] := hp 7 (by decide)
  have q8 : vs 8 = .agg #[.int .i64 (outV n0 k0 s0 p0 p2), .int .i64 (outV n1 k1 s1 p1 p3)] := hp 8 (by decide)
  have q9 : ∃ gg, (vs 9) = .pointer (some ⟨gg, 0, none⟩) ∧ W.heap[gg]? = some (box2 0 0) ∧ Wc.heap.size ≤ gg := hp 9 (by decide)
  clear hp
  simp only [fill, Act.put, List.append_eq, List.cons_append, List.nil_append, List.take_succ_cons, List.take_zero, List.setIfInBounds_toArray, List.set_cons_succ, List.set_cons_zero, Nat.reduceAdd, Nat.zero_add, q0, q1, q2, q3, q4, q5, q6, q7, q8] at hb
  subst hb
  simp only [List.append_eq, List.cons_append, List.nil_append, List.drop_succ_cons, List.drop_zero]
  clear q0 q1 q2 q3 q4 q5 q6 q7 q8
  obtain ⟨g, hv, A, hg⟩ := q9
  rw [hv]
  clear hv
  have z0 : _ = some (Value.int .i64 0) := (blk_cell A 0).trans rfl
  have y0 := blk_frozen A 0
  have z1 : _ = some (Value.int .i64 0) := (blk_cell A 1).trans rfl
  have y1 := blk_frozen A 1
  have hJ := Lib.hid hG
  clear hG
  have hW0 := Lib.hid hW0
  go_wp2
  replace hJ := hJ.out
  replace hW0 := hW0.out
  have hBB : Below Wc.heap.size Wc ((W.setCell ⟨g, 0, none⟩ (.int .i64 (outV n0 k0 s0 p0 p2))).setCell ⟨g, 1, none⟩ (.int .i64 (outV n1 k1 s1 p1 p3))) := below_set (below_set hJ hg) hg
  have hA : ((W.setCell ⟨g, 0, none⟩ (.int .i64 (outV n0 k0 s0 p0 p2))).setCell ⟨g, 1, none⟩ (.int .i64 (outV n1 k1 s1 p1 p3))).heap[g]? = some (box2 (outV n0 k0 s0 p0 p2) (outV n1 k1 s1 p1 p3)) := blk_put (blk_put A 0 _ rfl) 1 _ rfl
  have hG := And.intro (hW0.step hBB) hA
  generalize (W.setCell ⟨g, 0, none⟩ (.int .i64 (outV n0 k0 s0 p0 p2))).setCell ⟨g, 1, none⟩ (.int .i64 (outV n1 k1 s1 p1 p3)) = V at *
  clear hBB hJ hW0 A z0 z1 y0 y1 hA
  refine HK5.out _ _ ?_
  clear HK5
  apply wp_seq_k
  intro K6 hK6
  have HK6 := Lib.hid hK6
  clear hK6
  apply wp_seq_k
  intro K7 hK7
  have HK7 := Lib.hid hK7
  clear hK7
  refine wp_listed (R := fun W W' => Below W.heap.size W W') 18 [.val (.int .i64 y), .val (.bool (decide (y < 0))), .val (.bool (decide (y < 0))), .val ((bif ((decide (y < 0)) == false) then (.int .i64 y) else undef)), .val ((bif ((decide (y < 0)) == false) then (.pointer (some ⟨g, 0, none⟩)) else undef)), .val ((bif ((decide (y < 0)) == false) then (.int .i64 (outV n0 k0 s0 p0 p2)) else undef)), .val ((bif ((decide (y < 0)) == false) then (.bool (decide ((outV n0 k0 s0 p0 p2) ≤ y))) else undef)), .val (.bool ((decide (y < 0)) || (decide ((outV n0 k0 s0 p0 p2) ≤ y)))), .val (.bool ((decide (y < 0)) || (decide ((outV n0 k0 s0 p0 p2) ≤ y)))), .val ((bif (((decide (y < 0)) || (decide ((outV n0 k0 s0 p0 p2) ≤ y))) == false) then (.int .i64 x) else undef)), .val ((bif (((decide (y < 0)) || (decide ((outV n0 k0 s0 p0 p2) ≤ y))) == false) then (.bool (decide (x < 0))) else undef)), .val (.bool (((decide (y < 0)) || (decide ((outV n0 k0 s0 p0 p2) ≤ y))) || (decide (x < 0)))), .val (.bool (((decide (y < 0)) || (decide ((outV n0 k0 s0 p0 p2) ≤ y))) || (decide (x < 0)))), .val ((bif ((((decide (y < 0)) || (decide ((outV n0 k0 s0 p0 p2) ≤ y))) || (decide (x < 0))) == false) then (.int .i64 x) else undef)), .val ((bif ((((decide (y < 0)) || (decide ((outV n0 k0 s0 p0 p2) ≤ y))) || (decide (x < 0))) == false) then (.pointer (some ⟨g, 1, none⟩)) else undef)), .val ((bif ((((decide (y < 0)) || (decide ((outV n0 k0 s0 p0 p2) ≤ y))) || (decide (x < 0))) == false) then (.int .i64 (outV n1 k1 s1 p1 p3)) else undef)), .val ((bif ((((decide (y < 0)) || (decide ((outV n0 k0 s0 p0 p2) ≤ y))) || (decide (x < 0))) == false) then (.bool (decide ((outV n1 k1 s1 p1 p3) ≤ x))) else undef)), .val (.bool (!wiB y x (outV n0 k0 s0 p0 p2) (outV n1 k1 s1 p1 p3)))] (fun W => (WS n0 n1 k0 k1 s0 s1 p0 p1 p2 p3 w W) ∧ W.heap[g]? = some (box2 (outV n0 k0 s0 p0 p2) (outV n1 k1 s1 p1 p3))) (by kernel_rfl) hG ?_ ?_
  · intro vs W hG b hb
    have e1 : b.eval (.tmp 1) = .int .i64 y := (congrArg (fun x => Act.eval x (.tmp 1)) hb).trans ((fill_out _ 0 _ (by kernel_rfl)).trans rfl)
    have e2 : b.eval (.tmp 2) = .int .i64 x := (congrArg (fun x => Act.eval x (.tmp 2)) hb).trans ((fill_out _ 0 _ (by kernel_rfl)).trans rfl)
    have e9 : b.eval (.tmp 9) = .pointer (some ⟨g, 0, none⟩) := (congrArg (fun x => Act.eval x (.tmp 9)) hb).trans ((fill_out _ 0 _ (by kernel_rfl)).trans rfl)
    have i53 : b.eval (.tmp 53) = vs 0 := (congrArg (fun x => Act.eval x (.tmp 53)) hb).trans ((fill_in _ 0 0 _ _ 53 (by kernel_rfl) rfl rfl (by simp)).trans (congrArg vs (Nat.zero_add _)))
    have i54 : b.eval (.tmp 54) = vs 1 := (congrArg (fun x => Act.eval x (.tmp 54)) hb).trans ((fill_in _ 0 1 _ _ 54 (by kernel_rfl) rfl rfl (by simp)).trans (congrArg vs (Nat.zero_add _)))
    have i55 : b.eval (.tmp 55) = vs 2 := (congrArg (fun x => Act.eval x (.tmp 55)) hb).trans ((fill_in _ 0 2 _ _ 55 (by kernel_rfl) rfl rfl (by simp)).trans (congrArg vs (Nat.zero_add _)))
    have i56 : b.eval (.tmp 56) = vs 3 := (congrArg (fun x => Act.eval x (.tmp 56)) hb).trans ((fill_in _ 0 3 _ _ 56 (by kernel_rfl) rfl rfl (by simp)).trans (congrArg vs (Nat.zero_add _)))
    have i57 : b.eval (.tmp 57) = vs 4 := (congrArg (fun x => Act.eval x (.tmp 57)) hb).trans ((fill_in _ 0 4 _ _ 57 (by kernel_rfl) rfl rfl (by simp)).trans (congrArg vs (Nat.zero_add _)))
    have i58 : b.eval (.tmp 58) = vs 5 := (congrArg (fun x => Act.eval x (.tmp 58)) hb).trans ((fill_in _ 0 5 _ _ 58 (by kernel_rfl) rfl rfl (by simp)).trans (congrArg vs (Nat.zero_add _)))
    have i59 : b.eval (.tmp 59) = vs 6 := (congrArg (fun x => Act.eval x (.tmp 59)) hb).trans ((fill_in _ 0 6 _ _ 59 (by kernel_rfl) rfl rfl (by simp)).trans (congrArg vs (Nat.zero_add _)))
    have i60 : b.eval (.tmp 60) = vs 7 := (congrArg (fun x => Act.eval x (.tmp 60)) hb).trans ((fill_in _ 0 7 _ _ 60 (by kernel_rfl) rfl rfl (by simp)).trans (congrArg vs (Nat.zero_add _)))
    have i61 : b.eval (.tmp 61) = vs 8 := (congrArg (fun x => Act.eval x (.tmp 61)) hb).trans ((fill_in _ 0 8 _ _ 61 (by kernel_rfl) rfl rfl (by simp)).trans (congrArg vs (Nat.zero_add _)))
    have i62 : b.eval (.tmp 62) = vs 9 := (congrArg (fun x => Act.eval x (.tmp 62)) hb).trans ((fill_in _ 0 9 _ _ 62 (by kernel_rfl) rfl rfl (by simp)).trans (congrArg vs (Nat.zero_add _)))
    have i63 : b.eval (.tmp 63) = vs 10 := (congrArg (fun x => Act.eval x (.tmp 63)) hb).trans ((fill_in _ 0 10 _ _ 63 (by kernel_rfl) rfl rfl (by simp)).trans (congrArg vs (Nat.zero_add _)))
    have i64 : b.eval (.tmp 64) = vs 11 := (congrArg (fun x => Act.eval x (.tmp 64)) hb).trans ((fill_in _ 0 11 _ _ 64 (by kernel_rfl) rfl rfl (by simp)).trans (congrArg vs (Nat.zero_add _)))
    have i65 : b.eval (.tmp 65) = vs 12 := (congrArg (fun x => Act.eval x (.tmp 65)) hb).trans ((fill_in _ 0 12 _ _ 65 (by kernel_rfl) rfl rfl (by simp)).trans (congrArg vs (Nat.zero_add _)))
    have i66 : b.eval (.tmp 66) = vs 13 := (congrArg (fun x => Act.eval x (.tmp 66)) hb).trans ((fill_in _ 0 13 _ _ 66 (by kernel_rfl) rfl rfl (by simp)).trans (congrArg vs (Nat.zero_add _)))
    have i67 : b.eval (.tmp 67) = vs 14 := (congrArg (fun x => Act.eval x (.tmp 67)) hb).trans ((fill_in _ 0 14 _ _ 67 (by kernel_rfl) rfl rfl (by simp)).trans (congrArg vs (Nat.zero_add _)))
    have i68 : b.eval (.tmp 68) = vs 15 := (congrArg (fun x => Act.eval x (.tmp 68)) hb).trans ((fill_in _ 0 15 _ _ 68 (by kernel_rfl) rfl rfl (by simp)).trans (congrArg vs (Nat.zero_add _)))
    have i69 : b.eval (.tmp 69) = vs 16 := (congrArg (fun x => Act.eval x (.tmp 69)) hb).trans ((fill_in _ 0 16 _ _ 69 (by kernel_rfl) rfl rfl (by simp)).trans (congrArg vs (Nat.zero_add _)))
    clear hb
    refine And.intro ?_ (And.intro ?_ (And.intro ?_ (And.intro ?_ (And.intro ?_ (And.intro ?_ (And.intro ?_ (And.intro ?_ (And.intro ?_ (And.intro ?_ (And.intro ?_ (And.intro ?_ (And.intro ?_ (And.intro ?_ (And.intro ?_ (And.intro ?_ (And.intro ?_ (And.intro ?_ (trivial))))))))))))))))))
    · intro hp K hK
      refine g_no rfl ?_
      exact st_move (.inl rfl) (e1) (hK _ _ rfl hG (Below.refl _ _))
    · intro hp K hK
      refine g_no rfl ?_
      have e53 : b.eval (.tmp 53) = .int .i64 y := i53.trans (hp 0 (by kernel_rfl))
      exact st_bin rfl (e53) (eval_const _) b_lss (hK _ _ rfl hG (Below.refl _ _))
    · intro hp K hK
      refine g_no rfl ?_
      have e54 : b.eval (.tmp 54) = .bool (decide (y < 0)) := i54.trans (hp 1 (by kernel_rfl))
      exact st_move (.inl rfl) (e54) (hK _ _ rfl hG (Below.refl _ _))
    · intro hp K hK
      refine g_is (j := 2) (want := false) (c := decide (y < 0)) rfl (yielded_of (d := 55) rfl rfl (i55.trans (hp 2 (by kernel_rfl)))) (fun hb => ?_) (fun hb => hK _ _ (cond_no hb) hG (Below.refl _ _))
      exact st_move (.inl rfl) (e1) (hK _ _ (cond_yes hb).symm hG (Below.refl _ _))
    · intro hp K hK
      refine g_is (j := 2) (want := false) (c := decide (y < 0)) rfl (yielded_of (d := 55) rfl rfl (i55.trans (hp 2 (by kernel_rfl)))) (fun hb => ?_) (fun hb => hK _ _ (cond_no hb) hG (Below.refl _ _))
      exact st_index rfl (e9) (eval_const _) (by kernel_rfl) (hK _ _ (cond_yes hb).symm hG (Below.refl _ _))
    · intro hp K hK
      refine g_is (j := 2) (want := false) (c := decide (y < 0)) rfl (yielded_of (d := 55) rfl rfl (i55.trans (hp 2 (by kernel_rfl)))) (fun hb => ?_) (fun hb => hK _ _ (cond_no hb) hG (Below.refl _ _))
      have e57 : b.eval (.tmp 57) = (bif ((decide (y < 0)) == false) then (.pointer (some ⟨g, 0, none⟩)) else undef) := i57.trans (hp 4 (by kernel_rfl))
      replace e57 := e57.trans (cond_yes hb)
      exact st_load rfl (e57) (ld1 ((blk_cell hG.2 0).trans rfl)) (hK _ _ (cond_yes hb).symm hG (Below.refl _ _))
    · intro hp K hK
      refine g_is (j := 2) (want := false) (c := decide (y < 0)) rfl (yielded_of (d := 55) rfl rfl (i55.trans (hp 2 (by kernel_rfl)))) (fun hb => ?_) (fun hb => hK _ _ (cond_no hb) hG (Below.refl _ _))
      have e56 : b.eval (.tmp 56) = (bif ((decide (y < 0)) == false) then (.int .i64 y) else undef) := i56.trans (hp 3 (by kernel_rfl))
      replace e56 := e56.trans (cond_yes hb)
      have e58 : b.eval (.tmp 58) = (bif ((decide (y < 0)) == false) then (.int .i64 (outV n0 k0 s0 p0 p2)) else undef) := i58.trans (hp 5 (by kernel_rfl))
      replace e58 := e58.trans (cond_yes hb)
      exact st_bin rfl (e56) (e58) b_geq (hK _ _ (cond_yes hb).symm hG (Below.refl _ _))
    · intro hp K hK
      refine g_no rfl ?_
      have e55 : b.eval (.tmp 55) = .bool (decide (y < 0)) := i55.trans (hp 2 (by kernel_rfl))
      have e59 : b.eval (.tmp 59) = (bif ((decide (y < 0)) == false) then (.bool (decide ((outV n0 k0 s0 p0 p2) ≤ y))) else undef) := i59.trans (hp 6 (by kernel_rfl))
      exact st_pick rfl (e55) (by first | (rw [e59]; exact pick_or) | (rw [show b.eval (Operand.tmp 59) = _ from eval_const _]; exact pick_or)) (hK _ _ rfl hG (Below.refl _ _))
    · intro hp K hK
      refine g_no rfl ?_
      have e60 : b.eval (.tmp 60) = .bool ((decide (y < 0)) || (decide ((outV n0 k0 s0 p0 p2) ≤ y))) := i60.trans (hp 7 (by kernel_rfl))
      exact st_move (.inl rfl) (e60) (hK _ _ rfl hG (Below.refl _ _))
    · intro hp K hK
      refine g_is (j := 8) (want := false) (c := (decide (y < 0)) || (decide ((outV n0 k0 s0 p0 p2) ≤ y))) rfl (yielded_of (d := 61) rfl rfl (i61.trans (hp 8 (by kernel_rfl)))) (fun hb => ?_) (fun hb => hK _ _ (cond_no hb) hG (Below.refl _ _))
      exact st_move (.inl rfl) (e2) (hK _ _ (cond_yes hb).symm hG (Below.refl _ _))
    · intro hp K hK
      refine g_is (j := 8) (want := false) (c := (decide (y < 0)) || (decide ((outV n0 k0 s0 p0 p2) ≤ y))) rfl (yielded_of (d := 61) rfl rfl (i61.trans (hp 8 (by kernel_rfl)))) (fun hb => ?_) (fun hb => hK _ _ (cond_no hb) hG (Below.refl _ _))
      have e62 : b.eval (.tmp 62) = (bif (((decide (y < 0)) || (decide ((outV n0 k0 s0 p0 p2) ≤ y))) == false) then (.int .i64 x) else undef) := i62.trans (hp 9 (by kernel_rfl))
      replace e62 := e62.trans (cond_yes hb)
      exact st_bin rfl (e62) (eval_const _) b_lss (hK _ _ (cond_yes hb).symm hG (Below.refl _ _))
    · intro hp K hK
      refine g_no rfl ?_
      have e61 : b.eval (.tmp 61) = .bool ((decide (y < 0)) || (decide ((outV n0 k0 s0 p0 p2) ≤ y))) := i61.trans (hp 8 (by kernel_rfl))
      have e63 : b.eval (.tmp 63) = (bif (((decide (y < 0)) || (decide ((outV n0 k0 s0 p0 p2) ≤ y))) == false) then (.bool (decide (x < 0))) else undef) := i63.trans (hp 10 (by kernel_rfl))
      exact st_pick rfl (e61) (by first | (rw [e63]; exact pick_or) | (rw [show b.eval (Operand.tmp 63) = _ from eval_const _]; exact pick_or)) (hK _ _ rfl hG (Below.refl _ _))
    · intro hp K hK
      refine g_no rfl ?_
      have e64 : b.eval (.tmp 64) = .bool (((decide (y < 0)) || (decide ((outV n0 k0 s0 p0 p2) ≤ y))) || (decide (x < 0))) := i64.trans (hp 11 (by kernel_rfl))
      exact st_move (.inl rfl) (e64) (hK _ _ rfl hG (Below.refl _ _))
    · intro hp K hK
      refine g_is (j := 12) (want := false) (c := ((decide (y < 0)) || (decide ((outV n0 k0 s0 p0 p2) ≤ y))) || (decide (x < 0))) rfl (yielded_of (d := 65) rfl rfl (i65.trans (hp 12 (by kernel_rfl)))) (fun hb => ?_) (fun hb => hK _ _ (cond_no hb) hG (Below.refl _ _))
      exact st_move (.inl rfl) (e2) (hK _ _ (cond_yes hb).symm hG (Below.refl _ _))
    · intro hp K hK
      refine g_is (j := 12) (want := false) (c := ((decide (y < 0)) || (decide ((outV n0 k0 s0 p0 p2) ≤ y))) || (decide (x < 0))) rfl (yielded_of (d := 65) rfl rfl (i65.trans (hp 12 (by kernel_rfl)))) (fun hb => ?_) (fun hb => hK _ _ (cond_no hb) hG (Below.refl _ _))
      exact st_index rfl (e9) (eval_const _) (by kernel_rfl) (hK _ _ (cond_yes hb).symm hG (Below.refl _ _))
    · intro hp K hK
      refine g_is (j := 12) (want := false) (c := ((decide (y < 0)) || (decide ((outV n0 k0 s0 p0 p2) ≤ y))) || (decide (x < 0))) rfl (yielded_of (d := 65) rfl rfl (i65.trans (hp 12 (by kernel_rfl)))) (fun hb => ?_) (fun hb => hK _ _ (cond_no hb) hG (Below.refl _ _))
      have e67 : b.eval (.tmp 67) = (bif ((((decide (y < 0)) || (decide ((outV n0 k0 s0 p0 p2) ≤ y))) || (decide (x < 0))) == false) then (.pointer (some ⟨g, 1, none⟩)) else undef) := i67.trans (hp 14 (by kernel_rfl))
      replace e67 := e67.trans (cond_yes hb)
      exact st_load rfl (e67) (ld1 ((blk_cell hG.2 1).trans rfl)) (hK _ _ (cond_yes hb).symm hG (Below.refl _ _))
    · intro hp K hK
      refine g_is (j := 12) (want := false) (c := ((decide (y < 0)) || (decide ((outV n0 k0 s0 p0 p2) ≤ y))) || (decide (x < 0))) rfl (yielded_of (d := 65) rfl rfl (i65.trans (hp 12 (by kernel_rfl)))) (fun hb => ?_) (fun hb => hK _ _ (cond_no hb) hG (Below.refl _ _))
      have e66 : b.eval (.tmp 66) = (bif ((((decide (y < 0)) || (decide ((outV n0 k0 s0 p0 p2) ≤ y))) || (decide (x < 0))) == false) then (.int .i64 x) else undef) := i66.trans (hp 13 (by kernel_rfl))
      replace e66 := e66.trans (cond_yes hb)
      have e68 : b.eval (.tmp 68) = (bif ((((decide (y < 0)) || (decide ((outV n0 k0 s0 p0 p2) ≤ y))) || (decide (x < 0))) == false) then (.int .i64 (outV n1 k1 s1 p1 p3)) else undef) := i68.trans (hp 15 (by kernel_rfl))
      replace e68 := e68.trans (cond_yes hb)
      exact st_bin rfl (e66) (e68) b_geq (hK _ _ (cond_yes hb).symm hG (Below.refl _ _))
    · intro hp K hK
      refine g_no rfl ?_
      have e65 : b.eval (.tmp 65) = .bool (((decide (y < 0)) || (decide ((outV n0 k0 s0 p0 p2) ≤ y))) || (decide (x < 0))) := i65.trans (hp 12 (by kernel_rfl))
      have e69 : b.eval (.tmp 69) = (bif ((((decide (y < 0)) || (decide ((outV n0 k0 s0 p0 p2) ≤ y))) || (decide (x < 0))) == false) then (.bool (decide ((outV n1 k1 s1 p1 p3) ≤ x))) else undef) := i69.trans (hp 16 (by kernel_rfl))
      exact st_pick rfl (e65) (by first | (rw [e69]; exact (pick_or.trans (congrArg Value.bool not_wi))) | (rw [show b.eval (Operand.tmp 69) = _ from eval_const _]; exact (pick_or.trans (congrArg Value.bool not_wi)))) (hK _ _ rfl hG (Below.refl _ _))
  intro vs W hG hp b hb
  have q17 : vs 17 = .bool (!wiB y x (outV n0 k0 s0 p0 p2) (outV n1 k1 s1 p1 p3)) := hp 17 (by decide)
  clear hp
  simp only [fill, Act.put, List.append_eq, List.cons_append, List.nil_append, List.take_succ_cons, List.take_zero, List.setIfInBounds_toArray, List.set_cons_succ, List.set_cons_zero, Nat.reduceAdd, Nat.zero_add, q17] at hb
  subst hb
  refine wpList_nil ?_
  clear q17
  refine HK7.out _ _ ?_
  clear HK7
  rw [HO.out]
  apply wp_cond_true rfl
  apply wp_seq_k
  intro K8 hK8
  have HK8 := Lib.hid hK8
  clear hK8
  refine wp_listed (R := fun W W' => Below W.heap.size W W') 11 [.val (.slice none 0 0), .val (.int .i64 0), .val (.bool true), .val (.bool true), .val ((bif ((true) == true) then (.bool false) else undef)), .val ((bif ((true) == true) then (.bool (!false)) else undef)), .val (.bool (true && (!false))), .val (.bool (true && (!false))), .val ((bif ((true && (!false)) == true) then (.bool true) else undef)), .val (.bool ((true && (!false)) && true)), .val (.bool ((true && (!false)) && true))] (fun W => (WS n0 n1 k0 k1 s0 s1 p0 p1 p2 p3 w W) ∧ W.heap[g]? = some (box2 (outV n0 k0 s0 p0 p2) (outV n1 k1 s1 p1 p3))) (by kernel_rfl) hG ?_ ?_
  · intro vs W hG b hb
    have e7 : b.eval (.tmp 7) = .slice none 0 0 := (congrArg (fun x => Act.eval x (.tmp 7)) hb).trans ((fill_out _ 0 _ (by kernel_rfl)).trans rfl)
    have e8 : b.eval (.tmp 8) = .bool false := (congrArg (fun x => Act.eval x (.tmp 8)) hb).trans ((fill_out _ 0 _ (by kernel_rfl)).trans rfl)
    have i71 : b.eval (.tmp 71) = vs 0 := (congrArg (fun x => Act.eval x (.tmp 71)) hb).trans ((fill_in _ 0 0 _ _ 71 (by kernel_rfl) rfl rfl (by simp)).trans (congrArg vs (Nat.zero_add _)))
    have i72 : b.eval (.tmp 72) = vs 1 := (congrArg (fun x => Act.eval x (.tmp 72)) hb).trans ((fill_in _ 0 1 _ _ 72 (by kernel_rfl) rfl rfl (by simp)).trans (congrArg vs (Nat.zero_add _)))
    have i73 : b.eval (.tmp 73) = vs 2 := (congrArg (fun x => Act.eval x (.tmp 73)) hb).trans ((fill_in _ 0 2 _ _ 73 (by kernel_rfl) rfl rfl (by simp)).trans (congrArg vs (Nat.zero_add _)))
    have i74 : b.eval (.tmp 74) = vs 3 := (congrArg (fun x => Act.eval x (.tmp 74)) hb).trans ((fill_in _ 0 3 _ _ 74 (by kernel_rfl) rfl rfl (by simp)).trans (congrArg vs (Nat.zero_add _)))
    have i75 : b.eval (.tmp 75) = vs 4 := (congrArg (fun x => Act.eval x (.tmp 75)) hb).trans ((fill_in _ 0 4 _ _ 75 (by kernel_rfl) rfl rfl (by simp)).trans (congrArg vs (Nat.zero_add _)))
    have i76 : b.eval (.tmp 76) = vs 5 := (congrArg (fun x => Act.eval x (.tmp 76)) hb).trans ((fill_in _ 0 5 _ _ 76 (by kernel_rfl) rfl rfl (by simp)).trans (congrArg vs (Nat.zero_add _)))
    have i77 : b.eval (.tmp 77) = vs 6 := (congrArg (fun x => Act.eval x (.tmp 77)) hb).trans ((fill_in _ 0 6 _ _ 77 (by kernel_rfl) rfl rfl (by simp)).trans (congrArg vs (Nat.zero_add _)))
    have i78 : b.eval (.tmp 78) = vs 7 := (congrArg (fun x => Act.eval x (.tmp 78)) hb).trans ((fill_in _ 0 7 _ _ 78 (by kernel_rfl) rfl rfl (by simp)).trans (congrArg vs (Nat.zero_add _)))
    have i79 : b.eval (.tmp 79) = vs 8 := (congrArg (fun x => Act.eval x (.tmp 79)) hb).trans ((fill_in _ 0 8 _ _ 79 (by kernel_rfl) rfl rfl (by simp)).trans (congrArg vs (Nat.zero_add _)))
    have i80 : b.eval (.tmp 80) = vs 9 := (congrArg (fun x => Act.eval x (.tmp 80)) hb).trans ((fill_in _ 0 9 _ _ 80 (by kernel_rfl) rfl rfl (by simp)).trans (congrArg vs (Nat.zero_add _)))
    clear hb
    refine And.intro ?_ (And.intro ?_ (And.intro ?_ (And.intro ?_ (And.intro ?_ (And.intro ?_ (And.intro ?_ (And.intro ?_ (And.intro ?_ (And.intro ?_ (And.intro ?_ (trivial)))))))))))
    · intro hp K hK
      refine g_no rfl ?_
      exact st_move (.inl rfl) (e7) (hK _ _ rfl hG (Below.refl _ _))
    · intro hp K hK
      refine g_no rfl ?_
      have e71 : b.eval (.tmp 71) = .slice none 0 0 := i71.trans (hp 0 (by kernel_rfl))
      exact st_builtin rfl (by first | (simp only [List.map_toArray, List.map_cons, List.map_nil, eval_const, e71]; done) | (simp only [List.map_toArray, List.map_cons, List.map_nil, eval_const, e71]; rfl)) (fun cs => (b_len cs _).trans rfl) (hK _ _ rfl hG (Below.refl _ _))
    · intro hp K hK
      refine g_no rfl ?_
      have e72 : b.eval (.tmp 72) = .int .i64 0 := i72.trans (hp 1 (by kernel_rfl))
      exact st_bin rfl (e72) (eval_const _) (b_eql.trans (by rfl)) (hK _ _ rfl hG (Below.refl _ _))
    · intro hp K hK
      refine g_no rfl ?_
      have e73 : b.eval (.tmp 73) = .bool true := i73.trans (hp 2 (by kernel_rfl))
      exact st_move (.inl rfl) (e73) (hK _ _ rfl hG (Below.refl _ _))
    · intro hp K hK
      refine g_is (j := 3) (want := true) (c := true) rfl (yielded_of (d := 74) rfl rfl (i74.trans (hp 3 (by kernel_rfl)))) (fun hb => ?_) (fun hb => hK _ _ (cond_no hb) hG (Below.refl _ _))
      exact st_move (.inl rfl) (e8) (hK _ _ (cond_yes hb).symm hG (Below.refl _ _))
    · intro hp K hK
      refine g_is (j := 3) (want := true) (c := true) rfl (yielded_of (d := 74) rfl rfl (i74.trans (hp 3 (by kernel_rfl)))) (fun hb => ?_) (fun hb => hK _ _ (cond_no hb) hG (Below.refl _ _))
      have e75 : b.eval (.tmp 75) = (bif ((true) == true) then (.bool false) else undef) := i75.trans (hp 4 (by kernel_rfl))
      replace e75 := e75.trans (cond_yes hb)
      exact st_un rfl (e75) u_not (hK _ _ (cond_yes hb).symm hG (Below.refl _ _))
    · intro hp K hK
      refine g_no rfl ?_
      have e74 : b.eval (.tmp 74) = .bool true := i74.trans (hp 3 (by kernel_rfl))
      have e76 : b.eval (.tmp 76) = (bif ((true) == true) then (.bool (!false)) else undef) := i76.trans (hp 5 (by kernel_rfl))
      exact st_pick rfl (e74) (by first | (rw [e76]; exact pick_and) | (rw [show b.eval (Operand.tmp 76) = _ from eval_const _]; exact pick_and)) (hK _ _ rfl hG (Below.refl _ _))
    · intro hp K hK
      refine g_no rfl ?_
      have e77 : b.eval (.tmp 77) = .bool (true && (!false)) := i77.trans (hp 6 (by kernel_rfl))
      exact st_move (.inl rfl) (e77) (hK _ _ rfl hG (Below.refl _ _))
    · intro hp K hK
      refine g_is (j := 7) (want := true) (c := true && (!false)) rfl (yielded_of (d := 78) rfl rfl (i78.trans (hp 7 (by kernel_rfl)))) (fun hb => ?_) (fun hb => hK _ _ (cond_no hb) hG (Below.refl _ _))
      refine st_call rfl (by first | (simp only [List.map_toArray, List.map_cons, List.map_nil, eval_const]; done) | (simp only [List.map_toArray, List.map_cons, List.map_nil, eval_const]; rfl)) (by kernel_rfl) ?_
      refine (lives_is _).mono ?_
      rintro e w' ⟨rfl, hb'⟩
      exact ⟨_, rfl, hK _ _ (cond_yes hb).symm ⟨hG.1.step hb', blk_below hG.2 hb'⟩ hb'⟩
    · intro hp K hK
      refine g_no rfl ?_
      have e78 : b.eval (.tmp 78) = .bool (true && (!false)) := i78.trans (hp 7 (by kernel_rfl))
      have e79 : b.eval (.tmp 79) = (bif ((true && (!false)) == true) then (.bool true) else undef) := i79.trans (hp 8 (by kernel_rfl))
      exact st_pick rfl (e78) (by first | (rw [e79]; exact pick_and) | (rw [show b.eval (Operand.tmp 79) = _ from eval_const _]; exact pick_and)) (hK _ _ rfl hG (Below.refl _ _))
    · intro hp K hK
      refine g_no rfl ?_
      have e80 : b.eval (.tmp 80) = .bool ((true && (!false)) && true) := i80.trans (hp 9 (by kernel_rfl))
      exact st_move (.inr rfl) (e80) (hK _ _ rfl hG (Below.refl _ _))
  intro vs W hG hp b hb
  have q10 : vs 10 = .bool ((true && (!false)) && true) := hp 10 (by decide)
  clear hp
  simp only [fill, Act.put, List.append_eq, List.cons_append, List.nil_append, List.take_succ_cons, List.take_zero, List.setIfInBounds_toArray, List.set_cons_succ, List.set_cons_zero, Nat.reduceAdd, Nat.zero_add, q10] at hb
  subst hb
  refine wpList_nil ?_
  clear q10
  refine HK8.out _ _ ?_
  clear HK8
  have hG := Lib.hid hG
  go_wp2
  go_ret
  exact ⟨rfl, hG.out.1.bel⟩
set_option maxHeartbeats 8000000 in
theorem tapsl_good (n0 n1 k0 k1 s0 s1 p0 p1 p2 p3 y x : Int) (w : World) (h : goodV n0 n1 k0 k1 s0 s1 p0 p1 p2 p3 = true) (hy : 0 ≤ y ∧ y < (outV n0 k0 s0 p0 p2)) (hx : 0 ≤ x ∧ x < (outV n1 k1 s1 p1 p3)) : Calls Try.prog 9 #[.agg #[.int .i64 n0, .int .i64 n1, .int .i64 k0, .int .i64 k1, .int .i64 s0, .int .i64 s1, .int .i64 p0, .int .i64 p1, .int .i64 p2, .int .i64 p3], .int .i64 y, .int .i64 x] w (fun e w' => e = .returned (.bool true) ∧ Below w.heap.size w w') := by
  have H := Lib.hid h
  clear h
  have HY := Lib.hid hy
  have HX := Lib.hid hx
  clear hy hx
  have J := Lib.hid (WS.start n0 n1 k0 k1 s0 s1 p0 p1 p2 p3 w)
  go_enter Try.func9, Try.ntmps9
  apply wp_seq_k
  intro K1 hK1
  have HK1 := Lib.hid hK1
  clear hK1
  go_wp2
  refine HK1.out _ _ ?_
  clear HK1
  generalize w.alloc (win n0 n1 k0 k1 s0 s1 p0 p1 p2 p3) = u0 at *
  replace J := J.out
  apply wp_seq_k
  intro K2 hK2
  have HK2 := Lib.hid hK2
  clear hK2
  refine wp_listed (R := fun W W' => Below W.heap.size W W') 16 [.val (.pointer (some ⟨w.heap.size, 0, none⟩)), .val (.agg #[.int .i64 n0, .int .i64 n1]), .val (.pointer (some ⟨w.heap.size, 2, none⟩)), .val (.agg #[.int .i64 k0, .int .i64 k1]), .val (.pointer (some ⟨w.heap.size, 4, none⟩)), .val (.agg #[.int .i64 s0, .int .i64 s1]), .val (.pointer (some ⟨w.heap.size, 6, none⟩)), .val (.agg #[.int .i64 p0, .int .i64 p1, .int .i64 p2, .int .i64 p3]), .val (.int .i64 y), .val (.int .i64 x), ⟨fun v W => ∃ a c, v = .tuple #[.slice a (tapsL n0 n1 k1 s0 s1 p0 p1 y x (k0 * k1).toNat).length c, .bool true] ∧ W.ownsRow w.heap.size 34 2 (.slice a (tapsL n0 n1 k1 s0 s1 p0 p1 y x (k0 * k1).toNat).length c) (tapsL n0 n1 k1 s0 s1 p0 p1 y x (k0 * k1).toNat).length (flat (tapsL n0 n1 k1 s0 s1 p0 p1 y x (k0 * k1).toNat)), fun _ _ _ ⟨a, c, h1, h2⟩ hb => ⟨a, c, h1, ownsRow_below h2 hb⟩⟩, ⟨fun v W => ∃ a c, v = .tuple #[.slice a (tapsL n0 n1 k1 s0 s1 p0 p1 y x (k0 * k1).toNat).length c, .bool true] ∧ W.ownsRow w.heap.size 34 2 (.slice a (tapsL n0 n1 k1 s0 s1 p0 p1 y x (k0 * k1).toNat).length c) (tapsL n0 n1 k1 s0 s1 p0 p1 y x (k0 * k1).toNat).length (flat (tapsL n0 n1 k1 s0 s1 p0 p1 y x (k0 * k1).toNat)), fun _ _ _ ⟨a, c, h1, h2⟩ hb => ⟨a, c, h1, ownsRow_below h2 hb⟩⟩, ⟨fun v W => ∃ a c, v = .slice a (tapsL n0 n1 k1 s0 s1 p0 p1 y x (k0 * k1).toNat).length c ∧ W.ownsRow w.heap.size 34 2 (.slice a (tapsL n0 n1 k1 s0 s1 p0 p1 y x (k0 * k1).toNat).length c) (tapsL n0 n1 k1 s0 s1 p0 p1 y x (k0 * k1).toNat).length (flat (tapsL n0 n1 k1 s0 s1 p0 p1 y x (k0 * k1).toNat)), fun _ _ _ ⟨a, c, h1, h2⟩ hb => ⟨a, c, h1, ownsRow_below h2 hb⟩⟩, .val (.bool true), ⟨fun v W => ∃ a c, v = .slice a (tapsL n0 n1 k1 s0 s1 p0 p1 y x (k0 * k1).toNat).length c ∧ W.ownsRow w.heap.size 34 2 (.slice a (tapsL n0 n1 k1 s0 s1 p0 p1 y x (k0 * k1).toNat).length c) (tapsL n0 n1 k1 s0 s1 p0 p1 y x (k0 * k1).toNat).length (flat (tapsL n0 n1 k1 s0 s1 p0 p1 y x (k0 * k1).toNat)), fun _ _ _ ⟨a, c, h1, h2⟩ hb => ⟨a, c, h1, ownsRow_below h2 hb⟩⟩, .val (.bool true)] (fun W => WS n0 n1 k0 k1 s0 s1 p0 p1 p2 p3 w W) (by kernel_rfl) J ?_ ?_
  · intro vs W hG b hb
    have e1 : b.eval (.tmp 1) = .int .i64 y := (congrArg (fun x => Act.eval x (.tmp 1)) hb).trans ((fill_out _ 0 _ (by kernel_rfl)).trans rfl)
    have e2 : b.eval (.tmp 2) = .int .i64 x := (congrArg (fun x => Act.eval x (.tmp 2)) hb).trans ((fill_out _ 0 _ (by kernel_rfl)).trans rfl)
    have e3 : b.eval (.tmp 3) = .pointer (some ⟨w.heap.size, 0, none⟩) := (congrArg (fun x => Act.eval x (.tmp 3)) hb).trans ((fill_out _ 0 _ (by kernel_rfl)).trans rfl)
    have i10 : b.eval (.tmp 10) = vs 11 := (congrArg (fun x => Act.eval x (.tmp 10)) hb).trans ((fill_in _ 0 11 _ _ 10 (by kernel_rfl) rfl rfl (by simp)).trans (congrArg vs (Nat.zero_add _)))
    have i11 : b.eval (.tmp 11) = vs 0 := (congrArg (fun x => Act.eval x (.tmp 11)) hb).trans ((fill_in _ 0 0 _ _ 11 (by kernel_rfl) rfl rfl (by simp)).trans (congrArg vs (Nat.zero_add _)))
    have i12 : b.eval (.tmp 12) = vs 1 := (congrArg (fun x => Act.eval x (.tmp 12)) hb).trans ((fill_in _ 0 1 _ _ 12 (by kernel_rfl) rfl rfl (by simp)).trans (congrArg vs (Nat.zero_add _)))
    have i13 : b.eval (.tmp 13) = vs 2 := (congrArg (fun x => Act.eval x (.tmp 13)) hb).trans ((fill_in _ 0 2 _ _ 13 (by kernel_rfl) rfl rfl (by simp)).trans (congrArg vs (Nat.zero_add _)))
    have i14 : b.eval (.tmp 14) = vs 3 := (congrArg (fun x => Act.eval x (.tmp 14)) hb).trans ((fill_in _ 0 3 _ _ 14 (by kernel_rfl) rfl rfl (by simp)).trans (congrArg vs (Nat.zero_add _)))
    have i15 : b.eval (.tmp 15) = vs 4 := (congrArg (fun x => Act.eval x (.tmp 15)) hb).trans ((fill_in _ 0 4 _ _ 15 (by kernel_rfl) rfl rfl (by simp)).trans (congrArg vs (Nat.zero_add _)))
    have i16 : b.eval (.tmp 16) = vs 5 := (congrArg (fun x => Act.eval x (.tmp 16)) hb).trans ((fill_in _ 0 5 _ _ 16 (by kernel_rfl) rfl rfl (by simp)).trans (congrArg vs (Nat.zero_add _)))
    have i17 : b.eval (.tmp 17) = vs 6 := (congrArg (fun x => Act.eval x (.tmp 17)) hb).trans ((fill_in _ 0 6 _ _ 17 (by kernel_rfl) rfl rfl (by simp)).trans (congrArg vs (Nat.zero_add _)))
    have i18 : b.eval (.tmp 18) = vs 7 := (congrArg (fun x => Act.eval x (.tmp 18)) hb).trans ((fill_in _ 0 7 _ _ 18 (by kernel_rfl) rfl rfl (by simp)).trans (congrArg vs (Nat.zero_add _)))
    have i19 : b.eval (.tmp 19) = vs 8 := (congrArg (fun x => Act.eval x (.tmp 19)) hb).trans ((fill_in _ 0 8 _ _ 19 (by kernel_rfl) rfl rfl (by simp)).trans (congrArg vs (Nat.zero_add _)))
    have i20 : b.eval (.tmp 20) = vs 9 := (congrArg (fun x => Act.eval x (.tmp 20)) hb).trans ((fill_in _ 0 9 _ _ 20 (by kernel_rfl) rfl rfl (by simp)).trans (congrArg vs (Nat.zero_add _)))
    have i21 : b.eval (.tmp 21) = vs 10 := (congrArg (fun x => Act.eval x (.tmp 21)) hb).trans ((fill_in _ 0 10 _ _ 21 (by kernel_rfl) rfl rfl (by simp)).trans (congrArg vs (Nat.zero_add _)))
    have i22 : b.eval (.tmp 22) = vs 12 := (congrArg (fun x => Act.eval x (.tmp 22)) hb).trans ((fill_in _ 0 12 _ _ 22 (by kernel_rfl) rfl rfl (by simp)).trans (congrArg vs (Nat.zero_add _)))
    have i23 : b.eval (.tmp 23) = vs 13 := (congrArg (fun x => Act.eval x (.tmp 23)) hb).trans ((fill_in _ 0 13 _ _ 23 (by kernel_rfl) rfl rfl (by simp)).trans (congrArg vs (Nat.zero_add _)))
    clear hb
    refine And.intro ?_ (And.intro ?_ (And.intro ?_ (And.intro ?_ (And.intro ?_ (And.intro ?_ (And.intro ?_ (And.intro ?_ (And.intro ?_ (And.intro ?_ (And.intro ?_ (And.intro ?_ (And.intro ?_ (And.intro ?_ (And.intro ?_ (And.intro ?_ (trivial))))))))))))))))
    · intro hp K hK
      refine g_no rfl ?_
      exact st_field rfl (e3) (by kernel_rfl) (hK _ _ rfl hG (Below.refl _ _))
    · intro hp K hK
      refine g_no rfl ?_
      have e11 : b.eval (.tmp 11) = .pointer (some ⟨w.heap.size, 0, none⟩) := i11.trans (hp 0 (by kernel_rfl))
      exact st_load rfl (e11) (ldw0 hG.b0) (hK _ _ rfl hG (Below.refl _ _))
    · intro hp K hK
      refine g_no rfl ?_
      exact st_field rfl (e3) (by kernel_rfl) (hK _ _ rfl hG (Below.refl _ _))
    · intro hp K hK
      refine g_no rfl ?_
      have e13 : b.eval (.tmp 13) = .pointer (some ⟨w.heap.size, 2, none⟩) := i13.trans (hp 2 (by kernel_rfl))
      exact st_load rfl (e13) (ldw2 hG.b0) (hK _ _ rfl hG (Below.refl _ _))
    · intro hp K hK
      refine g_no rfl ?_
      exact st_field rfl (e3) (by kernel_rfl) (hK _ _ rfl hG (Below.refl _ _))
    · intro hp K hK
      refine g_no rfl ?_
      have e15 : b.eval (.tmp 15) = .pointer (some ⟨w.heap.size, 4, none⟩) := i15.trans (hp 4 (by kernel_rfl))
      exact st_load rfl (e15) (ldw4 hG.b0) (hK _ _ rfl hG (Below.refl _ _))
    · intro hp K hK
      refine g_no rfl ?_
      exact st_field rfl (e3) (by kernel_rfl) (hK _ _ rfl hG (Below.refl _ _))
    · intro hp K hK
      refine g_no rfl ?_
      have e17 : b.eval (.tmp 17) = .pointer (some ⟨w.heap.size, 6, none⟩) := i17.trans (hp 6 (by kernel_rfl))
      exact st_load rfl (e17) (ldw6 hG.b0) (hK _ _ rfl hG (Below.refl _ _))
    · intro hp K hK
      refine g_no rfl ?_
      exact st_move (.inl rfl) (e1) (hK _ _ rfl hG (Below.refl _ _))
    · intro hp K hK
      refine g_no rfl ?_
      exact st_move (.inl rfl) (e2) (hK _ _ rfl hG (Below.refl _ _))
    · intro hp K hK
      refine g_no rfl ?_
      have e12 : b.eval (.tmp 12) = .agg #[.int .i64 n0, .int .i64 n1] := i12.trans (hp 1 (by kernel_rfl))
      have e14 : b.eval (.tmp 14) = .agg #[.int .i64 k0, .int .i64 k1] := i14.trans (hp 3 (by kernel_rfl))
      have e16 : b.eval (.tmp 16) = .agg #[.int .i64 s0, .int .i64 s1] := i16.trans (hp 5 (by kernel_rfl))
      have e18 : b.eval (.tmp 18) = .agg #[.int .i64 p0, .int .i64 p1, .int .i64 p2, .int .i64 p3] := i18.trans (hp 7 (by kernel_rfl))
      have e19 : b.eval (.tmp 19) = .int .i64 y := i19.trans (hp 8 (by kernel_rfl))
      have e20 : b.eval (.tmp 20) = .int .i64 x := i20.trans (hp 9 (by kernel_rfl))
      refine st_call rfl (by first | (simp only [List.map_toArray, List.map_cons, List.map_nil, eval_const, e12, e14, e16, e18, e19, e20]; done) | (simp only [List.map_toArray, List.map_cons, List.map_nil, eval_const, e12, e14, e16, e18, e19, e20]; rfl)) (by kernel_rfl) ?_
      refine (Taps_good n0 n1 k0 k1 s0 s1 p0 p1 p2 p3 y x _ H.out HY.out HX.out).mono ?_
      rintro e w' ⟨v, rfl, hown, hb'⟩; obtain ⟨a_, c_, rfl⟩ := own_slice hown
      exact ⟨_, rfl, hK _ _ ⟨a_, c_, rfl, ⟨hown.1, hown.2.imp id (fun ⟨gq, cap, cur, h1, h2, h3⟩ => ⟨gq, cap, cur, h1, Nat.le_trans (by have := hG.size; omega) h2, h3⟩)⟩⟩ (hG.step hb') hb'⟩
    · intro hp K hK
      refine g_no rfl ?_
      have q10 : ∃ a c, (vs 10) = .tuple #[.slice a (tapsL n0 n1 k1 s0 s1 p0 p1 y x (k0 * k1).toNat).length c, .bool true] ∧ W.ownsRow w.heap.size 34 2 (.slice a (tapsL n0 n1 k1 s0 s1 p0 p1 y x (k0 * k1).toNat).length c) (tapsL n0 n1 k1 s0 s1 p0 p1 y x (k0 * k1).toNat).length (flat (tapsL n0 n1 k1 s0 s1 p0 p1 y x (k0 * k1).toNat)) := hp 10 (by kernel_rfl)
      obtain ⟨a_, c_, hv, hown⟩ := q10
      have e21 := i21.trans hv
      exact st_move (.inl rfl) (e21) (hK _ _ ⟨a_, c_, rfl, hown⟩ hG (Below.refl _ _))
    · intro hp K hK
      refine g_no rfl ?_
      have q11 : ∃ a c, (vs 11) = .tuple #[.slice a (tapsL n0 n1 k1 s0 s1 p0 p1 y x (k0 * k1).toNat).length c, .bool true] ∧ W.ownsRow w.heap.size 34 2 (.slice a (tapsL n0 n1 k1 s0 s1 p0 p1 y x (k0 * k1).toNat).length c) (tapsL n0 n1 k1 s0 s1 p0 p1 y x (k0 * k1).toNat).length (flat (tapsL n0 n1 k1 s0 s1 p0 p1 y x (k0 * k1).toNat)) := hp 11 (by kernel_rfl)
      obtain ⟨a_, c_, hv, hown⟩ := q11
      have e10 := i10.trans hv
      exact st_extract rfl (e10) (by kernel_rfl) (hK _ _ ⟨a_, c_, rfl, hown⟩ hG (Below.refl _ _))
    · intro hp K hK
      refine g_no rfl ?_
      have q11 : ∃ a c, (vs 11) = .tuple #[.slice a (tapsL n0 n1 k1 s0 s1 p0 p1 y x (k0 * k1).toNat).length c, .bool true] ∧ W.ownsRow w.heap.size 34 2 (.slice a (tapsL n0 n1 k1 s0 s1 p0 p1 y x (k0 * k1).toNat).length c) (tapsL n0 n1 k1 s0 s1 p0 p1 y x (k0 * k1).toNat).length (flat (tapsL n0 n1 k1 s0 s1 p0 p1 y x (k0 * k1).toNat)) := hp 11 (by kernel_rfl)
      obtain ⟨a_, c_, hv, hown⟩ := q11
      have e10 := i10.trans hv
      exact st_extract rfl (e10) (by kernel_rfl) (hK _ _ rfl hG (Below.refl _ _))
    · intro hp K hK
      refine g_no rfl ?_
      have q12 : ∃ a c, (vs 12) = .slice a (tapsL n0 n1 k1 s0 s1 p0 p1 y x (k0 * k1).toNat).length c ∧ W.ownsRow w.heap.size 34 2 (.slice a (tapsL n0 n1 k1 s0 s1 p0 p1 y x (k0 * k1).toNat).length c) (tapsL n0 n1 k1 s0 s1 p0 p1 y x (k0 * k1).toNat).length (flat (tapsL n0 n1 k1 s0 s1 p0 p1 y x (k0 * k1).toNat)) := hp 12 (by kernel_rfl)
      obtain ⟨a_, c_, hv, hown⟩ := q12
      have e22 := i22.trans hv
      exact st_move (.inr rfl) (e22) (hK _ _ ⟨a_, c_, rfl, hown⟩ hG (Below.refl _ _))
    · intro hp K hK
      refine g_no rfl ?_
      have e23 : b.eval (.tmp 23) = .bool true := i23.trans (hp 13 (by kernel_rfl))
      exact st_move (.inr rfl) (e23) (hK _ _ rfl hG (Below.refl _ _))
  intro vs W hG hp b hb
  have q10 : ∃ a c, (vs 10) = .tuple #[.slice a (tapsL n0 n1 k1 s0 s1 p0 p1 y x (k0 * k1).toNat).length c, .bool true] ∧ W.ownsRow w.heap.size 34 2 (.slice a (tapsL n0 n1 k1 s0 s1 p0 p1 y x (k0 * k1).toNat).length c) (tapsL n0 n1 k1 s0 s1 p0 p1 y x (k0 * k1).toNat).length (flat (tapsL n0 n1 k1 s0 s1 p0 p1 y x (k0 * k1).toNat)) := hp 10 (by decide)
  have q11 : ∃ a c, (vs 11) = .tuple #[.slice a (tapsL n0 n1 k1 s0 s1 p0 p1 y x (k0 * k1).toNat).length c, .bool true] ∧ W.ownsRow w.heap.size 34 2 (.slice a (tapsL n0 n1 k1 s0 s1 p0 p1 y x (k0 * k1).toNat).length c) (tapsL n0 n1 k1 s0 s1 p0 p1 y x (k0 * k1).toNat).length (flat (tapsL n0 n1 k1 s0 s1 p0 p1 y x (k0 * k1).toNat)) := hp 11 (by decide)
  have q12 : ∃ a c, (vs 12) = .slice a (tapsL n0 n1 k1 s0 s1 p0 p1 y x (k0 * k1).toNat).length c ∧ W.ownsRow w.heap.size 34 2 (.slice a (tapsL n0 n1 k1 s0 s1 p0 p1 y x (k0 * k1).toNat).length c) (tapsL n0 n1 k1 s0 s1 p0 p1 y x (k0 * k1).toNat).length (flat (tapsL n0 n1 k1 s0 s1 p0 p1 y x (k0 * k1).toNat)) := hp 12 (by decide)
  have q14 : ∃ a c, (vs 14) = .slice a (tapsL n0 n1 k1 s0 s1 p0 p1 y x (k0 * k1).toNat).length c ∧ W.ownsRow w.heap.size 34 2 (.slice a (tapsL n0 n1 k1 s0 s1 p0 p1 y x (k0 * k1).toNat).length c) (tapsL n0 n1 k1 s0 s1 p0 p1 y x (k0 * k1).toNat).length (flat (tapsL n0 n1 k1 s0 s1 p0 p1 y x (k0 * k1).toNat)) := hp 14 (by decide)
  have q15 : vs 15 = .bool true := hp 15 (by decide)
  clear hp
  simp only [fill, Act.put, List.append_eq, List.cons_append, List.nil_append, List.take_succ_cons, List.take_zero, List.setIfInBounds_toArray, List.set_cons_succ, List.set_cons_zero, Nat.reduceAdd, Nat.zero_add, q15] at hb
  subst hb
  refine wpList_nil ?_
  clear q15
  clear q10 q11 q12 J
  obtain ⟨a_, c_, hv, hown⟩ := q14
  rw [hv]
  clear hv
  refine HK2.out _ _ ?_
  clear HK2
  apply wp_seq_k
  intro K3 hK3
  have HK3 := Lib.hid hK3
  clear hK3
  apply wp_seq_k
  intro K4 hK4
  have HK4 := Lib.hid hK4
  clear hK4
  have hG := And.intro hG hown
  clear hown
  refine wp_listed (R := fun W W' => Below W.heap.size W W') 10 [.val (.pointer (some ⟨w.heap.size, 0, none⟩)), .val (.agg #[.int .i64 n0, .int .i64 n1]), .val (.pointer (some ⟨w.heap.size, 2, none⟩)), .val (.agg #[.int .i64 k0, .int .i64 k1]), .val (.pointer (some ⟨w.heap.size, 4, none⟩)), .val (.agg #[.int .i64 s0, .int .i64 s1]), .val (.pointer (some ⟨w.heap.size, 6, none⟩)), .val (.agg #[.int .i64 p0, .int .i64 p1, .int .i64 p2, .int .i64 p3]), .val (.bool true), .val (.bool (!true))] (fun W => WS n0 n1 k0 k1 s0 s1 p0 p1 p2 p3 w W ∧ W.ownsRow w.heap.size 34 2 (.slice a_ (tapsL n0 n1 k1 s0 s1 p0 p1 y x (k0 * k1).toNat).length c_) (tapsL n0 n1 k1 s0 s1 p0 p1 y x (k0 * k1).toNat).length (flat (tapsL n0 n1 k1 s0 s1 p0 p1 y x (k0 * k1).toNat))) (by kernel_rfl) hG ?_ ?_
  · intro vs W hG b hb
    have e3 : b.eval (.tmp 3) = .pointer (some ⟨w.heap.size, 0, none⟩) := (congrArg (fun x => Act.eval x (.tmp 3)) hb).trans ((fill_out _ 0 _ (by kernel_rfl)).trans rfl)
    have i24 : b.eval (.tmp 24) = vs 0 := (congrArg (fun x => Act.eval x (.tmp 24)) hb).trans ((fill_in _ 0 0 _ _ 24 (by kernel_rfl) rfl rfl (by simp)).trans (congrArg vs (Nat.zero_add _)))
    have i25 : b.eval (.tmp 25) = vs 1 := (congrArg (fun x => Act.eval x (.tmp 25)) hb).trans ((fill_in _ 0 1 _ _ 25 (by kernel_rfl) rfl rfl (by simp)).trans (congrArg vs (Nat.zero_add _)))
    have i26 : b.eval (.tmp 26) = vs 2 := (congrArg (fun x => Act.eval x (.tmp 26)) hb).trans ((fill_in _ 0 2 _ _ 26 (by kernel_rfl) rfl rfl (by simp)).trans (congrArg vs (Nat.zero_add _)))
    have i27 : b.eval (.tmp 27) = vs 3 := (congrArg (fun x => Act.eval x (.tmp 27)) hb).trans ((fill_in _ 0 3 _ _ 27 (by kernel_rfl) rfl rfl (by simp)).trans (congrArg vs (Nat.zero_add _)))
    have i28 : b.eval (.tmp 28) = vs 4 := (congrArg (fun x => Act.eval x (.tmp 28)) hb).trans ((fill_in _ 0 4 _ _ 28 (by kernel_rfl) rfl rfl (by simp)).trans (congrArg vs (Nat.zero_add _)))
    have i29 : b.eval (.tmp 29) = vs 5 := (congrArg (fun x => Act.eval x (.tmp 29)) hb).trans ((fill_in _ 0 5 _ _ 29 (by kernel_rfl) rfl rfl (by simp)).trans (congrArg vs (Nat.zero_add _)))
    have i30 : b.eval (.tmp 30) = vs 6 := (congrArg (fun x => Act.eval x (.tmp 30)) hb).trans ((fill_in _ 0 6 _ _ 30 (by kernel_rfl) rfl rfl (by simp)).trans (congrArg vs (Nat.zero_add _)))
    have i31 : b.eval (.tmp 31) = vs 7 := (congrArg (fun x => Act.eval x (.tmp 31)) hb).trans ((fill_in _ 0 7 _ _ 31 (by kernel_rfl) rfl rfl (by simp)).trans (congrArg vs (Nat.zero_add _)))
    have i32 : b.eval (.tmp 32) = vs 8 := (congrArg (fun x => Act.eval x (.tmp 32)) hb).trans ((fill_in _ 0 8 _ _ 32 (by kernel_rfl) rfl rfl (by simp)).trans (congrArg vs (Nat.zero_add _)))
    clear hb
    refine And.intro ?_ (And.intro ?_ (And.intro ?_ (And.intro ?_ (And.intro ?_ (And.intro ?_ (And.intro ?_ (And.intro ?_ (And.intro ?_ (And.intro ?_ (trivial))))))))))
    · intro hp K hK
      refine g_no rfl ?_
      exact st_field rfl (e3) (by kernel_rfl) (hK _ _ rfl hG (Below.refl _ _))
    · intro hp K hK
      refine g_no rfl ?_
      have e24 : b.eval (.tmp 24) = .pointer (some ⟨w.heap.size, 0, none⟩) := i24.trans (hp 0 (by kernel_rfl))
      exact st_load rfl (e24) (ldw0 hG.1.b0) (hK _ _ rfl hG (Below.refl _ _))
    · intro hp K hK
      refine g_no rfl ?_
      exact st_field rfl (e3) (by kernel_rfl) (hK _ _ rfl hG (Below.refl _ _))
    · intro hp K hK
      refine g_no rfl ?_
      have e26 : b.eval (.tmp 26) = .pointer (some ⟨w.heap.size, 2, none⟩) := i26.trans (hp 2 (by kernel_rfl))
      exact st_load rfl (e26) (ldw2 hG.1.b0) (hK _ _ rfl hG (Below.refl _ _))
    · intro hp K hK
      refine g_no rfl ?_
      exact st_field rfl (e3) (by kernel_rfl) (hK _ _ rfl hG (Below.refl _ _))
    · intro hp K hK
      refine g_no rfl ?_
      have e28 : b.eval (.tmp 28) = .pointer (some ⟨w.heap.size, 4, none⟩) := i28.trans (hp 4 (by kernel_rfl))
      exact st_load rfl (e28) (ldw4 hG.1.b0) (hK _ _ rfl hG (Below.refl _ _))
    · intro hp K hK
      refine g_no rfl ?_
      exact st_field rfl (e3) (by kernel_rfl) (hK _ _ rfl hG (Below.refl _ _))
    · intro hp K hK
      refine g_no rfl ?_
      have e30 : b.eval (.tmp 30) = .pointer (some ⟨w.heap.size, 6, none⟩) := i30.trans (hp 6 (by kernel_rfl))
      exact st_load rfl (e30) (ldw6 hG.1.b0) (hK _ _ rfl hG (Below.refl _ _))
    · intro hp K hK
      refine g_no rfl ?_
      have e25 : b.eval (.tmp 25) = .agg #[.int .i64 n0, .int .i64 n1] := i25.trans (hp 1 (by kernel_rfl))
      have e27 : b.eval (.tmp 27) = .agg #[.int .i64 k0, .int .i64 k1] := i27.trans (hp 3 (by kernel_rfl))
      have e29 : b.eval (.tmp 29) = .agg #[.int .i64 s0, .int .i64 s1] := i29.trans (hp 5 (by kernel_rfl))
      have e31 : b.eval (.tmp 31) = .agg #[.int .i64 p0, .int .i64 p1, .int .i64 p2, .int .i64 p3] := i31.trans (hp 7 (by kernel_rfl))
      refine st_call rfl (by first | (simp only [List.map_toArray, List.map_cons, List.map_nil, eval_const, e25, e27, e29, e31]; done) | (simp only [List.map_toArray, List.map_cons, List.map_nil, eval_const, e25, e27, e29, e31]; rfl)) (by kernel_rfl) ?_
      refine ((refGood n0 n1 k0 k1 s0 s1 p0 p1 p2 p3 _).mono (fun e w' h => ⟨h.1.trans (by rw [H.out]), h.2⟩ : ∀ e w', _ → (e = .returned (.bool true) ∧ Below _ _ w'))).mono ?_
      rintro e w' ⟨rfl, hb'⟩
      exact ⟨_, rfl, hK _ _ rfl ⟨hG.1.step hb', ownsRow_below hG.2 hb'⟩ hb'⟩
    · intro hp K hK
      refine g_no rfl ?_
      have e32 : b.eval (.tmp 32) = .bool true := i32.trans (hp 8 (by kernel_rfl))
      exact st_un rfl (e32) u_not (hK _ _ rfl hG (Below.refl _ _))
  intro vs W hG hp b hb
  have q9 : vs 9 = .bool (!true) := hp 9 (by decide)
  clear hp
  simp only [fill, Act.put, List.append_eq, List.cons_append, List.nil_append, List.take_succ_cons, List.take_zero, List.setIfInBounds_toArray, List.set_cons_succ, List.set_cons_zero, Nat.reduceAdd, Nat.zero_add, q9] at hb
  subst hb
  refine wpList_nil ?_
  clear q9
  refine HK4.out _ _ ?_
  clear HK4
  apply wp_cond_false rfl
  apply wp_skip
  simp only [Exit.then]
  refine HK3.out _ _ ?_
  clear HK3
  apply wp_seq_k
  intro K5 hK5
  have HK5 := Lib.hid hK5
  clear hK5
  have hW0 := hG
  clear hG
  generalize hWc : W = Wc at hW0 ⊢
  clear hWc
  refine wp_listed (R := fun W W' => Below W.heap.size W W') 10 [.val (.pointer (some ⟨w.heap.size, 0, none⟩)), .val (.agg #[.int .i64 n0, .int .i64 n1]), .val (.pointer (some ⟨w.heap.size, 2, none⟩)), .val (.agg #[.int .i64 k0, .int .i64 k1]), .val (.pointer (some ⟨w.heap.size, 4, none⟩)), .val (.agg #[.int .i64 s0, .int .i64 s1]), .val (.pointer (some ⟨w.heap.size, 6, none⟩)), .val (.agg #[.int .i64 p0, .int .i64 p1, .int .i64 p2, .int .i64 p3]), .val (.agg #[.int .i64 (outV n0 k0 s0 p0 p2), .int .i64 (outV n1 k1 s1 p1 p3)]), newSpec (box2 0 0) (Wc.heap.size)] (fun W => Below Wc.heap.size Wc W) (by kernel_rfl) (Below.refl _ _) ?_ ?_
  · intro vs W hG b hb
    have e3 : b.eval (.tmp 3) = .pointer (some ⟨w.heap.size, 0, none⟩) := (congrArg (fun x => Act.eval x (.tmp 3)) hb).trans ((fill_out _ 0 _ (by kernel_rfl)).trans rfl)
    have i44 : b.eval (.tmp 44) = vs 0 := (congrArg (fun x => Act.eval x (.tmp 44)) hb).trans ((fill_in _ 0 0 _ _ 44 (by kernel_rfl) rfl rfl (by simp)).trans (congrArg vs (Nat.zero_add _)))
    have i45 : b.eval (.tmp 45) = vs 1 := (congrArg (fun x => Act.eval x (.tmp 45)) hb).trans ((fill_in _ 0 1 _ _ 45 (by kernel_rfl) rfl rfl (by simp)).trans (congrArg vs (Nat.zero_add _)))
    have i46 : b.eval (.tmp 46) = vs 2 := (congrArg (fun x => Act.eval x (.tmp 46)) hb).trans ((fill_in _ 0 2 _ _ 46 (by kernel_rfl) rfl rfl (by simp)).trans (congrArg vs (Nat.zero_add _)))
    have i47 : b.eval (.tmp 47) = vs 3 := (congrArg (fun x => Act.eval x (.tmp 47)) hb).trans ((fill_in _ 0 3 _ _ 47 (by kernel_rfl) rfl rfl (by simp)).trans (congrArg vs (Nat.zero_add _)))
    have i48 : b.eval (.tmp 48) = vs 4 := (congrArg (fun x => Act.eval x (.tmp 48)) hb).trans ((fill_in _ 0 4 _ _ 48 (by kernel_rfl) rfl rfl (by simp)).trans (congrArg vs (Nat.zero_add _)))
    have i49 : b.eval (.tmp 49) = vs 5 := (congrArg (fun x => Act.eval x (.tmp 49)) hb).trans ((fill_in _ 0 5 _ _ 49 (by kernel_rfl) rfl rfl (by simp)).trans (congrArg vs (Nat.zero_add _)))
    have i50 : b.eval (.tmp 50) = vs 6 := (congrArg (fun x => Act.eval x (.tmp 50)) hb).trans ((fill_in _ 0 6 _ _ 50 (by kernel_rfl) rfl rfl (by simp)).trans (congrArg vs (Nat.zero_add _)))
    have i51 : b.eval (.tmp 51) = vs 7 := (congrArg (fun x => Act.eval x (.tmp 51)) hb).trans ((fill_in _ 0 7 _ _ 51 (by kernel_rfl) rfl rfl (by simp)).trans (congrArg vs (Nat.zero_add _)))
    clear hb
    refine And.intro ?_ (And.intro ?_ (And.intro ?_ (And.intro ?_ (And.intro ?_ (And.intro ?_ (And.intro ?_ (And.intro ?_ (And.intro ?_ (And.intro ?_ (trivial))))))))))
    · intro hp K hK
      refine g_no rfl ?_
      exact st_field rfl (e3) (by kernel_rfl) (hK _ _ rfl hG (Below.refl _ _))
    · intro hp K hK
      refine g_no rfl ?_
      have e44 : b.eval (.tmp 44) = .pointer (some ⟨w.heap.size, 0, none⟩) := i44.trans (hp 0 (by kernel_rfl))
      exact st_load rfl (e44) (ldw0 (blk_below hW0.1.b0 hG)) (hK _ _ rfl hG (Below.refl _ _))
    · intro hp K hK
      refine g_no rfl ?_
      exact st_field rfl (e3) (by kernel_rfl) (hK _ _ rfl hG (Below.refl _ _))
    · intro hp K hK
      refine g_no rfl ?_
      have e46 : b.eval (.tmp 46) = .pointer (some ⟨w.heap.size, 2, none⟩) := i46.trans (hp 2 (by kernel_rfl))
      exact st_load rfl (e46) (ldw2 (blk_below hW0.1.b0 hG)) (hK _ _ rfl hG (Below.refl _ _))
    · intro hp K hK
      refine g_no rfl ?_
      exact st_field rfl (e3) (by kernel_rfl) (hK _ _ rfl hG (Below.refl _ _))
    · intro hp K hK
      refine g_no rfl ?_
      have e48 : b.eval (.tmp 48) = .pointer (some ⟨w.heap.size, 4, none⟩) := i48.trans (hp 4 (by kernel_rfl))
      exact st_load rfl (e48) (ldw4 (blk_below hW0.1.b0 hG)) (hK _ _ rfl hG (Below.refl _ _))
    · intro hp K hK
      refine g_no rfl ?_
      exact st_field rfl (e3) (by kernel_rfl) (hK _ _ rfl hG (Below.refl _ _))
    · intro hp K hK
      refine g_no rfl ?_
      have e50 : b.eval (.tmp 50) = .pointer (some ⟨w.heap.size, 6, none⟩) := i50.trans (hp 6 (by kernel_rfl))
      exact st_load rfl (e50) (ldw6 (blk_below hW0.1.b0 hG)) (hK _ _ rfl hG (Below.refl _ _))
    · intro hp K hK
      refine g_no rfl ?_
      have e45 : b.eval (.tmp 45) = .agg #[.int .i64 n0, .int .i64 n1] := i45.trans (hp 1 (by kernel_rfl))
      have e47 : b.eval (.tmp 47) = .agg #[.int .i64 k0, .int .i64 k1] := i47.trans (hp 3 (by kernel_rfl))
      have e49 : b.eval (.tmp 49) = .agg #[.int .i64 s0, .int .i64 s1] := i49.trans (hp 5 (by kernel_rfl))
      have e51 : b.eval (.tmp 51) = .agg #[.int .i64 p0, .int .i64 p1, .int .i64 p2, .int .i64 p3] := i51.trans (hp 7 (by kernel_rfl))
      refine st_call rfl (by first | (simp only [List.map_toArray, List.map_cons, List.map_nil, eval_const, e45, e47, e49, e51]; done) | (simp only [List.map_toArray, List.map_cons, List.map_nil, eval_const, e45, e47, e49, e51]; rfl)) (by kernel_rfl) ?_
      refine (refOut n0 n1 k0 k1 s0 s1 p0 p1 p2 p3 _ H.out).mono ?_
      rintro e w' ⟨rfl, hb'⟩
      exact ⟨_, rfl, hK _ _ rfl (hG.trans (hb'.mono hG.size)) hb'⟩
    · intro hp K hK
      refine g_no rfl ?_
      exact st_alloc rfl (new2 _) (hK _ _ ⟨_, rfl, blk_new _ _, hG.size⟩ (hG.alloc hG.size _) ((Below.refl _ _).alloc (Nat.le_refl _) _))
  intro vs W hG hp b hb
  have q0 : vs 0 = .pointer (some ⟨w.heap.size, 0, none⟩) := hp 0 (by decide)
  have q1 : vs 1 = .agg #[.int .i64 n0, .int .i64 n1] := hp 1 (by decide)
  have q2 : vs 2 = .pointer (some ⟨w.heap.size, 2, none⟩) := hp 2 (by decide)
  have q3 : vs 3 = .agg #[.int .i64 k0, .int .i64 k1] := hp 3 (by decide)
  have q4 : vs 4 = .pointer (some ⟨w.heap.size, 4, none⟩) := hp 4 (by decide)
  have q5 : vs 5 = .agg #[.int .i64 s0, .int .i64 s1] := hp 5 (by decide)
  have q6 : vs 6 = .pointer (some ⟨w.heap.size, 6, none⟩) := hp 6 (by decide)
  have q7 : vs 7 = .agg #[.int .i64 p0, .int .i64 p1, .int .i64 p2, .int .i64 p3] := hp 7 (by decide)
  have q8 : vs 8 = .agg #[.int .i64 (outV n0 k0 s0 p0 p2), .int .i64 (outV n1 k1 s1 p1 p3)] := hp 8 (by decide)
  have q9 : ∃ gg, (vs 9) = .pointer (some ⟨gg, 0, none⟩) ∧ W.heap[gg]? = some (box2 0 0) ∧ Wc.heap.size ≤ gg := hp 9 (by decide)
  clear hp
  simp only [fill, Act.put, List.append_eq, List.cons_append, List.nil_append, List.take_succ_cons, List.take_zero, List.setIfInBounds_toArray, List.set_cons_succ, List.set_cons_zero, Nat.reduceAdd, Nat.zero_add, q0, q1, q2, q3, q4, q5, q6, q7, q8] at hb
  subst hb
  simp only [List.append_eq, List.cons_append, List.nil_append, List.drop_succ_cons, List.drop_zero]
  clear q0 q1 q2 q3 q4 q5 q6 q7 q8
  obtain ⟨g, hv, A, hg⟩ := q9
  rw [hv]
  clear hv
  have z0 : _ = some (Value.int .i64 0) := (blk_cell A 0).trans rfl
  have y0 := blk_frozen A 0
  have z1 : _ = some (Value.int .i64 0) := (blk_cell A 1).trans rfl
  have y1 := blk_frozen A 1
  have hJ := Lib.hid hG
  clear hG
  have hW0 := Lib.hid hW0
  go_wp2
  replace hJ := hJ.out
  replace hW0 := hW0.out
  have hBB : Below Wc.heap.size Wc ((W.setCell ⟨g, 0, none⟩ (.int .i64 (outV n0 k0 s0 p0 p2))).setCell ⟨g, 1, none⟩ (.int .i64 (outV n1 k1 s1 p1 p3))) := below_set (below_set hJ hg) hg
  have hA : ((W.setCell ⟨g, 0, none⟩ (.int .i64 (outV n0 k0 s0 p0 p2))).setCell ⟨g, 1, none⟩ (.int .i64 (outV n1 k1 s1 p1 p3))).heap[g]? = some (box2 (outV n0 k0 s0 p0 p2) (outV n1 k1 s1 p1 p3)) := blk_put (blk_put A 0 _ rfl) 1 _ rfl
  have hG := And.intro (And.intro (hW0.1.step hBB) (ownsRow_below hW0.2 hBB)) hA
  generalize (W.setCell ⟨g, 0, none⟩ (.int .i64 (outV n0 k0 s0 p0 p2))).setCell ⟨g, 1, none⟩ (.int .i64 (outV n1 k1 s1 p1 p3)) = V at *
  clear hBB hJ hW0 A z0 z1 y0 y1 hA
  refine HK5.out _ _ ?_
  clear HK5
  apply wp_seq_k
  intro K6 hK6
  have HK6 := Lib.hid hK6
  clear hK6
  apply wp_seq_k
  intro K7 hK7
  have HK7 := Lib.hid hK7
  clear hK7
  refine wp_listed (R := fun W W' => Below W.heap.size W W') 18 [.val (.int .i64 y), .val (.bool (decide (y < 0))), .val (.bool (decide (y < 0))), .val ((bif ((decide (y < 0)) == false) then (.int .i64 y) else undef)), .val ((bif ((decide (y < 0)) == false) then (.pointer (some ⟨g, 0, none⟩)) else undef)), .val ((bif ((decide (y < 0)) == false) then (.int .i64 (outV n0 k0 s0 p0 p2)) else undef)), .val ((bif ((decide (y < 0)) == false) then (.bool (decide ((outV n0 k0 s0 p0 p2) ≤ y))) else undef)), .val (.bool ((decide (y < 0)) || (decide ((outV n0 k0 s0 p0 p2) ≤ y)))), .val (.bool ((decide (y < 0)) || (decide ((outV n0 k0 s0 p0 p2) ≤ y)))), .val ((bif (((decide (y < 0)) || (decide ((outV n0 k0 s0 p0 p2) ≤ y))) == false) then (.int .i64 x) else undef)), .val ((bif (((decide (y < 0)) || (decide ((outV n0 k0 s0 p0 p2) ≤ y))) == false) then (.bool (decide (x < 0))) else undef)), .val (.bool (((decide (y < 0)) || (decide ((outV n0 k0 s0 p0 p2) ≤ y))) || (decide (x < 0)))), .val (.bool (((decide (y < 0)) || (decide ((outV n0 k0 s0 p0 p2) ≤ y))) || (decide (x < 0)))), .val ((bif ((((decide (y < 0)) || (decide ((outV n0 k0 s0 p0 p2) ≤ y))) || (decide (x < 0))) == false) then (.int .i64 x) else undef)), .val ((bif ((((decide (y < 0)) || (decide ((outV n0 k0 s0 p0 p2) ≤ y))) || (decide (x < 0))) == false) then (.pointer (some ⟨g, 1, none⟩)) else undef)), .val ((bif ((((decide (y < 0)) || (decide ((outV n0 k0 s0 p0 p2) ≤ y))) || (decide (x < 0))) == false) then (.int .i64 (outV n1 k1 s1 p1 p3)) else undef)), .val ((bif ((((decide (y < 0)) || (decide ((outV n0 k0 s0 p0 p2) ≤ y))) || (decide (x < 0))) == false) then (.bool (decide ((outV n1 k1 s1 p1 p3) ≤ x))) else undef)), .val (.bool (!wiB y x (outV n0 k0 s0 p0 p2) (outV n1 k1 s1 p1 p3)))] (fun W => (WS n0 n1 k0 k1 s0 s1 p0 p1 p2 p3 w W ∧ W.ownsRow w.heap.size 34 2 (.slice a_ (tapsL n0 n1 k1 s0 s1 p0 p1 y x (k0 * k1).toNat).length c_) (tapsL n0 n1 k1 s0 s1 p0 p1 y x (k0 * k1).toNat).length (flat (tapsL n0 n1 k1 s0 s1 p0 p1 y x (k0 * k1).toNat))) ∧ W.heap[g]? = some (box2 (outV n0 k0 s0 p0 p2) (outV n1 k1 s1 p1 p3))) (by kernel_rfl) hG ?_ ?_
  · intro vs W hG b hb
    have e1 : b.eval (.tmp 1) = .int .i64 y := (congrArg (fun x => Act.eval x (.tmp 1)) hb).trans ((fill_out _ 0 _ (by kernel_rfl)).trans rfl)
    have e2 : b.eval (.tmp 2) = .int .i64 x := (congrArg (fun x => Act.eval x (.tmp 2)) hb).trans ((fill_out _ 0 _ (by kernel_rfl)).trans rfl)
    have e9 : b.eval (.tmp 9) = .pointer (some ⟨g, 0, none⟩) := (congrArg (fun x => Act.eval x (.tmp 9)) hb).trans ((fill_out _ 0 _ (by kernel_rfl)).trans rfl)
    have i53 : b.eval (.tmp 53) = vs 0 := (congrArg (fun x => Act.eval x (.tmp 53)) hb).trans ((fill_in _ 0 0 _ _ 53 (by kernel_rfl) rfl rfl (by simp)).trans (congrArg vs (Nat.zero_add _)))
    have i54 : b.eval (.tmp 54) = vs 1 := (congrArg (fun x => Act.eval x (.tmp 54)) hb).trans ((fill_in _ 0 1 _ _ 54 (by kernel_rfl) rfl rfl (by simp)).trans (congrArg vs (Nat.zero_add _)))
    have i55 : b.eval (.tmp 55) = vs 2 := (congrArg (fun x => Act.eval x (.tmp 55)) hb).trans ((fill_in _ 0 2 _ _ 55 (by kernel_rfl) rfl rfl (by simp)).trans (congrArg vs (Nat.zero_add _)))
    have i56 : b.eval (.tmp 56) = vs 3 := (congrArg (fun x => Act.eval x (.tmp 56)) hb).trans ((fill_in _ 0 3 _ _ 56 (by kernel_rfl) rfl rfl (by simp)).trans (congrArg vs (Nat.zero_add _)))
    have i57 : b.eval (.tmp 57) = vs 4 := (congrArg (fun x => Act.eval x (.tmp 57)) hb).trans ((fill_in _ 0 4 _ _ 57 (by kernel_rfl) rfl rfl (by simp)).trans (congrArg vs (Nat.zero_add _)))
    have i58 : b.eval (.tmp 58) = vs 5 := (congrArg (fun x => Act.eval x (.tmp 58)) hb).trans ((fill_in _ 0 5 _ _ 58 (by kernel_rfl) rfl rfl (by simp)).trans (congrArg vs (Nat.zero_add _)))
    have i59 : b.eval (.tmp 59) = vs 6 := (congrArg (fun x => Act.eval x (.tmp 59)) hb).trans ((fill_in _ 0 6 _ _ 59 (by kernel_rfl) rfl rfl (by simp)).trans (congrArg vs (Nat.zero_add _)))
    have i60 : b.eval (.tmp 60) = vs 7 := (congrArg (fun x => Act.eval x (.tmp 60)) hb).trans ((fill_in _ 0 7 _ _ 60 (by kernel_rfl) rfl rfl (by simp)).trans (congrArg vs (Nat.zero_add _)))
    have i61 : b.eval (.tmp 61) = vs 8 := (congrArg (fun x => Act.eval x (.tmp 61)) hb).trans ((fill_in _ 0 8 _ _ 61 (by kernel_rfl) rfl rfl (by simp)).trans (congrArg vs (Nat.zero_add _)))
    have i62 : b.eval (.tmp 62) = vs 9 := (congrArg (fun x => Act.eval x (.tmp 62)) hb).trans ((fill_in _ 0 9 _ _ 62 (by kernel_rfl) rfl rfl (by simp)).trans (congrArg vs (Nat.zero_add _)))
    have i63 : b.eval (.tmp 63) = vs 10 := (congrArg (fun x => Act.eval x (.tmp 63)) hb).trans ((fill_in _ 0 10 _ _ 63 (by kernel_rfl) rfl rfl (by simp)).trans (congrArg vs (Nat.zero_add _)))
    have i64 : b.eval (.tmp 64) = vs 11 := (congrArg (fun x => Act.eval x (.tmp 64)) hb).trans ((fill_in _ 0 11 _ _ 64 (by kernel_rfl) rfl rfl (by simp)).trans (congrArg vs (Nat.zero_add _)))
    have i65 : b.eval (.tmp 65) = vs 12 := (congrArg (fun x => Act.eval x (.tmp 65)) hb).trans ((fill_in _ 0 12 _ _ 65 (by kernel_rfl) rfl rfl (by simp)).trans (congrArg vs (Nat.zero_add _)))
    have i66 : b.eval (.tmp 66) = vs 13 := (congrArg (fun x => Act.eval x (.tmp 66)) hb).trans ((fill_in _ 0 13 _ _ 66 (by kernel_rfl) rfl rfl (by simp)).trans (congrArg vs (Nat.zero_add _)))
    have i67 : b.eval (.tmp 67) = vs 14 := (congrArg (fun x => Act.eval x (.tmp 67)) hb).trans ((fill_in _ 0 14 _ _ 67 (by kernel_rfl) rfl rfl (by simp)).trans (congrArg vs (Nat.zero_add _)))
    have i68 : b.eval (.tmp 68) = vs 15 := (congrArg (fun x => Act.eval x (.tmp 68)) hb).trans ((fill_in _ 0 15 _ _ 68 (by kernel_rfl) rfl rfl (by simp)).trans (congrArg vs (Nat.zero_add _)))
    have i69 : b.eval (.tmp 69) = vs 16 := (congrArg (fun x => Act.eval x (.tmp 69)) hb).trans ((fill_in _ 0 16 _ _ 69 (by kernel_rfl) rfl rfl (by simp)).trans (congrArg vs (Nat.zero_add _)))
    clear hb
    refine And.intro ?_ (And.intro ?_ (And.intro ?_ (And.intro ?_ (And.intro ?_ (And.intro ?_ (And.intro ?_ (And.intro ?_ (And.intro ?_ (And.intro ?_ (And.intro ?_ (And.intro ?_ (And.intro ?_ (And.intro ?_ (And.intro ?_ (And.intro ?_ (And.intro ?_ (And.intro ?_ (trivial))))))))))))))))))
    · intro hp K hK
      refine g_no rfl ?_
      exact st_move (.inl rfl) (e1) (hK _ _ rfl hG (Below.refl _ _))
    · intro hp K hK
      refine g_no rfl ?_
      have e53 : b.eval (.tmp 53) = .int .i64 y := i53.trans (hp 0 (by kernel_rfl))
      exact st_bin rfl (e53) (eval_const _) b_lss (hK _ _ rfl hG (Below.refl _ _))
    · intro hp K hK
      refine g_no rfl ?_
      have e54 : b.eval (.tmp 54) = .bool (decide (y < 0)) := i54.trans (hp 1 (by kernel_rfl))
      exact st_move (.inl rfl) (e54) (hK _ _ rfl hG (Below.refl _ _))
    · intro hp K hK
      refine g_is (j := 2) (want := false) (c := decide (y < 0)) rfl (yielded_of (d := 55) rfl rfl (i55.trans (hp 2 (by kernel_rfl)))) (fun hb => ?_) (fun hb => hK _ _ (cond_no hb) hG (Below.refl _ _))
      exact st_move (.inl rfl) (e1) (hK _ _ (cond_yes hb).symm hG (Below.refl _ _))
    · intro hp K hK
      refine g_is (j := 2) (want := false) (c := decide (y < 0)) rfl (yielded_of (d := 55) rfl rfl (i55.trans (hp 2 (by kernel_rfl)))) (fun hb => ?_) (fun hb => hK _ _ (cond_no hb) hG (Below.refl _ _))
      exact st_index rfl (e9) (eval_const _) (by kernel_rfl) (hK _ _ (cond_yes hb).symm hG (Below.refl _ _))
    · intro hp K hK
      refine g_is (j := 2) (want := false) (c := decide (y < 0)) rfl (yielded_of (d := 55) rfl rfl (i55.trans (hp 2 (by kernel_rfl)))) (fun hb => ?_) (fun hb => hK _ _ (cond_no hb) hG (Below.refl _ _))
      have e57 : b.eval (.tmp 57) = (bif ((decide (y < 0)) == false) then (.pointer (some ⟨g, 0, none⟩)) else undef) := i57.trans (hp 4 (by kernel_rfl))
      replace e57 := e57.trans (cond_yes hb)
      exact st_load rfl (e57) (ld1 ((blk_cell hG.2 0).trans rfl)) (hK _ _ (cond_yes hb).symm hG (Below.refl _ _))
    · intro hp K hK
      refine g_is (j := 2) (want := false) (c := decide (y < 0)) rfl (yielded_of (d := 55) rfl rfl (i55.trans (hp 2 (by kernel_rfl)))) (fun hb => ?_) (fun hb => hK _ _ (cond_no hb) hG (Below.refl _ _))
      have e56 : b.eval (.tmp 56) = (bif ((decide (y < 0)) == false) then (.int .i64 y) else undef) := i56.trans (hp 3 (by kernel_rfl))
      replace e56 := e56.trans (cond_yes hb)
      have e58 : b.eval (.tmp 58) = (bif ((decide (y < 0)) == false) then (.int .i64 (outV n0 k0 s0 p0 p2)) else undef) := i58.trans (hp 5 (by kernel_rfl))
      replace e58 := e58.trans (cond_yes hb)
      exact st_bin rfl (e56) (e58) b_geq (hK _ _ (cond_yes hb).symm hG (Below.refl _ _))
    · intro hp K hK
      refine g_no rfl ?_
      have e55 : b.eval (.tmp 55) = .bool (decide (y < 0)) := i55.trans (hp 2 (by kernel_rfl))
      have e59 : b.eval (.tmp 59) = (bif ((decide (y < 0)) == false) then (.bool (decide ((outV n0 k0 s0 p0 p2) ≤ y))) else undef) := i59.trans (hp 6 (by kernel_rfl))
      exact st_pick rfl (e55) (by first | (rw [e59]; exact pick_or) | (rw [show b.eval (Operand.tmp 59) = _ from eval_const _]; exact pick_or)) (hK _ _ rfl hG (Below.refl _ _))
    · intro hp K hK
      refine g_no rfl ?_
      have e60 : b.eval (.tmp 60) = .bool ((decide (y < 0)) || (decide ((outV n0 k0 s0 p0 p2) ≤ y))) := i60.trans (hp 7 (by kernel_rfl))
      exact st_move (.inl rfl) (e60) (hK _ _ rfl hG (Below.refl _ _))
    · intro hp K hK
      refine g_is (j := 8) (want := false) (c := (decide (y < 0)) || (decide ((outV n0 k0 s0 p0 p2) ≤ y))) rfl (yielded_of (d := 61) rfl rfl (i61.trans (hp 8 (by kernel_rfl)))) (fun hb => ?_) (fun hb => hK _ _ (cond_no hb) hG (Below.refl _ _))
      exact st_move (.inl rfl) (e2) (hK _ _ (cond_yes hb).symm hG (Below.refl _ _))
    · intro hp K hK
      refine g_is (j := 8) (want := false) (c := (decide (y < 0)) || (decide ((outV n0 k0 s0 p0 p2) ≤ y))) rfl (yielded_of (d := 61) rfl rfl (i61.trans (hp 8 (by kernel_rfl)))) (fun hb => ?_) (fun hb => hK _ _ (cond_no hb) hG (Below.refl _ _))
      have e62 : b.eval (.tmp 62) = (bif (((decide (y < 0)) || (decide ((outV n0 k0 s0 p0 p2) ≤ y))) == false) then (.int .i64 x) else undef) := i62.trans (hp 9 (by kernel_rfl))
      replace e62 := e62.trans (cond_yes hb)
      exact st_bin rfl (e62) (eval_const _) b_lss (hK _ _ (cond_yes hb).symm hG (Below.refl _ _))
    · intro hp K hK
      refine g_no rfl ?_
      have e61 : b.eval (.tmp 61) = .bool ((decide (y < 0)) || (decide ((outV n0 k0 s0 p0 p2) ≤ y))) := i61.trans (hp 8 (by kernel_rfl))
      have e63 : b.eval (.tmp 63) = (bif (((decide (y < 0)) || (decide ((outV n0 k0 s0 p0 p2) ≤ y))) == false) then (.bool (decide (x < 0))) else undef) := i63.trans (hp 10 (by kernel_rfl))
      exact st_pick rfl (e61) (by first | (rw [e63]; exact pick_or) | (rw [show b.eval (Operand.tmp 63) = _ from eval_const _]; exact pick_or)) (hK _ _ rfl hG (Below.refl _ _))
    · intro hp K hK
      refine g_no rfl ?_
      have e64 : b.eval (.tmp 64) = .bool (((decide (y < 0)) || (decide ((outV n0 k0 s0 p0 p2) ≤ y))) || (decide (x < 0))) := i64.trans (hp 11 (by kernel_rfl))
      exact st_move (.inl rfl) (e64) (hK _ _ rfl hG (Below.refl _ _))
    · intro hp K hK
      refine g_is (j := 12) (want := false) (c := ((decide (y < 0)) || (decide ((outV n0 k0 s0 p0 p2) ≤ y))) || (decide (x < 0))) rfl (yielded_of (d := 65) rfl rfl (i65.trans (hp 12 (by kernel_rfl)))) (fun hb => ?_) (fun hb => hK _ _ (cond_no hb) hG (Below.refl _ _))
      exact st_move (.inl rfl) (e2) (hK _ _ (cond_yes hb).symm hG (Below.refl _ _))
    · intro hp K hK
      refine g_is (j := 12) (want := false) (c := ((decide (y < 0)) || (decide ((outV n0 k0 s0 p0 p2) ≤ y))) || (decide (x < 0))) rfl (yielded_of (d := 65) rfl rfl (i65.trans (hp 12 (by kernel_rfl)))) (fun hb => ?_) (fun hb => hK _ _ (cond_no hb) hG (Below.refl _ _))
      exact st_index rfl (e9) (eval_const _) (by kernel_rfl) (hK _ _ (cond_yes hb).symm hG (Below.refl _ _))
    · intro hp K hK
      refine g_is (j := 12) (want := false) (c := ((decide (y < 0)) || (decide ((outV n0 k0 s0 p0 p2) ≤ y))) || (decide (x < 0))) rfl (yielded_of (d := 65) rfl rfl (i65.trans (hp 12 (by kernel_rfl)))) (fun hb => ?_) (fun hb => hK _ _ (cond_no hb) hG (Below.refl _ _))
      have e67 : b.eval (.tmp 67) = (bif ((((decide (y < 0)) || (decide ((outV n0 k0 s0 p0 p2) ≤ y))) || (decide (x < 0))) == false) then (.pointer (some ⟨g, 1, none⟩)) else undef) := i67.trans (hp 14 (by kernel_rfl))
      replace e67 := e67.trans (cond_yes hb)
      exact st_load rfl (e67) (ld1 ((blk_cell hG.2 1).trans rfl)) (hK _ _ (cond_yes hb).symm hG (Below.refl _ _))
    · intro hp K hK
      refine g_is (j := 12) (want := false) (c := ((decide (y < 0)) || (decide ((outV n0 k0 s0 p0 p2) ≤ y))) || (decide (x < 0))) rfl (yielded_of (d := 65) rfl rfl (i65.trans (hp 12 (by kernel_rfl)))) (fun hb => ?_) (fun hb => hK _ _ (cond_no hb) hG (Below.refl _ _))
      have e66 : b.eval (.tmp 66) = (bif ((((decide (y < 0)) || (decide ((outV n0 k0 s0 p0 p2) ≤ y))) || (decide (x < 0))) == false) then (.int .i64 x) else undef) := i66.trans (hp 13 (by kernel_rfl))
      replace e66 := e66.trans (cond_yes hb)
      have e68 : b.eval (.tmp 68) = (bif ((((decide (y < 0)) || (decide ((outV n0 k0 s0 p0 p2) ≤ y))) || (decide (x < 0))) == false) then (.int .i64 (outV n1 k1 s1 p1 p3)) else undef) := i68.trans (hp 15 (by kernel_rfl))
      replace e68 := e68.trans (cond_yes hb)
      exact st_bin rfl (e66) (e68) b_geq (hK _ _ (cond_yes hb).symm hG (Below.refl _ _))
    · intro hp K hK
      refine g_no rfl ?_
      have e65 : b.eval (.tmp 65) = .bool (((decide (y < 0)) || (decide ((outV n0 k0 s0 p0 p2) ≤ y))) || (decide (x < 0))) := i65.trans (hp 12 (by kernel_rfl))
      have e69 : b.eval (.tmp 69) = (bif ((((decide (y < 0)) || (decide ((outV n0 k0 s0 p0 p2) ≤ y))) || (decide (x < 0))) == false) then (.bool (decide ((outV n1 k1 s1 p1 p3) ≤ x))) else undef) := i69.trans (hp 16 (by kernel_rfl))
      exact st_pick rfl (e65) (by first | (rw [e69]; exact (pick_or.trans (congrArg Value.bool not_wi))) | (rw [show b.eval (Operand.tmp 69) = _ from eval_const _]; exact (pick_or.trans (congrArg Value.bool not_wi)))) (hK _ _ rfl hG (Below.refl _ _))
  intro vs W hG hp b hb
  have q17 : vs 17 = .bool (!wiB y x (outV n0 k0 s0 p0 p2) (outV n1 k1 s1 p1 p3)) := hp 17 (by decide)
  clear hp
  simp only [fill, Act.put, List.append_eq, List.cons_append, List.nil_append, List.take_succ_cons, List.take_zero, List.setIfInBounds_toArray, List.set_cons_succ, List.set_cons_zero, Nat.reduceAdd, Nat.zero_add, q17] at hb
  subst hb
  refine wpList_nil ?_
  clear q17
  refine HK7.out _ _ ?_
  clear HK7
  have hw : wiB y x (outV n0 k0 s0 p0 p2) (outV n1 k1 s1 p1 p3) = true := by
    unfold wiB
    rw [decide_eq_true HY.out.1, decide_eq_true HX.out.1, decide_eq_true HY.out.2, decide_eq_true HX.out.2]
    rfl
  rw [hw]
  clear hw
  apply wp_cond_false rfl
  apply wp_skip
  simp only [Exit.then]
  refine HK6.out _ _ ?_
  clear HK6
  apply wp_seq_k
  intro K8 hK8
  have HK8 := Lib.hid hK8
  clear hK8
  refine wp_listed (R := fun W W' => Below W.heap.size W W') 20 [.val (.slice a_ (tapsL n0 n1 k1 s0 s1 p0 p1 y x (k0 * k1).toNat).length c_), .val (.pointer (some ⟨w.heap.size, 0, none⟩)), .val (.agg #[.int .i64 n0, .int .i64 n1]), .val (.pointer (some ⟨w.heap.size, 2, none⟩)), .val (.agg #[.int .i64 k0, .int .i64 k1]), .val (.pointer (some ⟨w.heap.size, 4, none⟩)), .val (.agg #[.int .i64 s0, .int .i64 s1]), .val (.pointer (some ⟨w.heap.size, 6, none⟩)), .val (.agg #[.int .i64 p0, .int .i64 p1, .int .i64 p2, .int .i64 p3]), .val (.int .i64 y), .val (.int .i64 x), ⟨fun v W => ∃ a c, v = .slice a (tapsL n0 n1 k1 s0 s1 p0 p1 y x (k0 * k1).toNat).length c ∧ W.ownsRow w.heap.size 34 2 (.slice a (tapsL n0 n1 k1 s0 s1 p0 p1 y x (k0 * k1).toNat).length c) (tapsL n0 n1 k1 s0 s1 p0 p1 y x (k0 * k1).toNat).length (flat (tapsL n0 n1 k1 s0 s1 p0 p1 y x (k0 * k1).toNat)), fun _ _ _ ⟨a, c, h1, h2⟩ hb => ⟨a, c, h1, ownsRow_below h2 hb⟩⟩, .val (.bool true), .val (.bool true), .val ((bif ((true) == true) then (.bool true) else undef)), .val (.bool (true && true)), .val (.bool (true && true)), .val ((bif ((true && true) == true) then (.bool true) else undef)), .val (.bool ((true && true) && true)), .val (.bool ((true && true) && true))] (fun W => (WS n0 n1 k0 k1 s0 s1 p0 p1 p2 p3 w W ∧ W.ownsRow w.heap.size 34 2 (.slice a_ (tapsL n0 n1 k1 s0 s1 p0 p1 y x (k0 * k1).toNat).length c_) (tapsL n0 n1 k1 s0 s1 p0 p1 y x (k0 * k1).toNat).length (flat (tapsL n0 n1 k1 s0 s1 p0 p1 y x (k0 * k1).toNat))) ∧ W.heap[g]? = some (box2 (outV n0 k0 s0 p0 p2) (outV n1 k1 s1 p1 p3))) (by kernel_rfl) hG ?_ ?_
  · intro vs W hG b hb
    have e1 : b.eval (.tmp 1) = .int .i64 y := (congrArg (fun x => Act.eval x (.tmp 1)) hb).trans ((fill_out _ 0 _ (by kernel_rfl)).trans rfl)
    have e2 : b.eval (.tmp 2) = .int .i64 x := (congrArg (fun x => Act.eval x (.tmp 2)) hb).trans ((fill_out _ 0 _ (by kernel_rfl)).trans rfl)
    have e3 : b.eval (.tmp 3) = .pointer (some ⟨w.heap.size, 0, none⟩) := (congrArg (fun x => Act.eval x (.tmp 3)) hb).trans ((fill_out _ 0 _ (by kernel_rfl)).trans rfl)
    have e7 : b.eval (.tmp 7) = .slice a_ (tapsL n0 n1 k1 s0 s1 p0 p1 y x (k0 * k1).toNat).length c_ := (congrArg (fun x => Act.eval x (.tmp 7)) hb).trans ((fill_out _ 0 _ (by kernel_rfl)).trans rfl)
    have e8 : b.eval (.tmp 8) = .bool true := (congrArg (fun x => Act.eval x (.tmp 8)) hb).trans ((fill_out _ 0 _ (by kernel_rfl)).trans rfl)
    have i81 : b.eval (.tmp 81) = vs 0 := (congrArg (fun x => Act.eval x (.tmp 81)) hb).trans ((fill_in _ 0 0 _ _ 81 (by kernel_rfl) rfl rfl (by simp)).trans (congrArg vs (Nat.zero_add _)))
    have i82 : b.eval (.tmp 82) = vs 1 := (congrArg (fun x => Act.eval x (.tmp 82)) hb).trans ((fill_in _ 0 1 _ _ 82 (by kernel_rfl) rfl rfl (by simp)).trans (congrArg vs (Nat.zero_add _)))
    have i83 : b.eval (.tmp 83) = vs 2 := (congrArg (fun x => Act.eval x (.tmp 83)) hb).trans ((fill_in _ 0 2 _ _ 83 (by kernel_rfl) rfl rfl (by simp)).trans (congrArg vs (Nat.zero_add _)))
    have i84 : b.eval (.tmp 84) = vs 3 := (congrArg (fun x => Act.eval x (.tmp 84)) hb).trans ((fill_in _ 0 3 _ _ 84 (by kernel_rfl) rfl rfl (by simp)).trans (congrArg vs (Nat.zero_add _)))
    have i85 : b.eval (.tmp 85) = vs 4 := (congrArg (fun x => Act.eval x (.tmp 85)) hb).trans ((fill_in _ 0 4 _ _ 85 (by kernel_rfl) rfl rfl (by simp)).trans (congrArg vs (Nat.zero_add _)))
    have i86 : b.eval (.tmp 86) = vs 5 := (congrArg (fun x => Act.eval x (.tmp 86)) hb).trans ((fill_in _ 0 5 _ _ 86 (by kernel_rfl) rfl rfl (by simp)).trans (congrArg vs (Nat.zero_add _)))
    have i87 : b.eval (.tmp 87) = vs 6 := (congrArg (fun x => Act.eval x (.tmp 87)) hb).trans ((fill_in _ 0 6 _ _ 87 (by kernel_rfl) rfl rfl (by simp)).trans (congrArg vs (Nat.zero_add _)))
    have i88 : b.eval (.tmp 88) = vs 7 := (congrArg (fun x => Act.eval x (.tmp 88)) hb).trans ((fill_in _ 0 7 _ _ 88 (by kernel_rfl) rfl rfl (by simp)).trans (congrArg vs (Nat.zero_add _)))
    have i89 : b.eval (.tmp 89) = vs 8 := (congrArg (fun x => Act.eval x (.tmp 89)) hb).trans ((fill_in _ 0 8 _ _ 89 (by kernel_rfl) rfl rfl (by simp)).trans (congrArg vs (Nat.zero_add _)))
    have i90 : b.eval (.tmp 90) = vs 9 := (congrArg (fun x => Act.eval x (.tmp 90)) hb).trans ((fill_in _ 0 9 _ _ 90 (by kernel_rfl) rfl rfl (by simp)).trans (congrArg vs (Nat.zero_add _)))
    have i91 : b.eval (.tmp 91) = vs 10 := (congrArg (fun x => Act.eval x (.tmp 91)) hb).trans ((fill_in _ 0 10 _ _ 91 (by kernel_rfl) rfl rfl (by simp)).trans (congrArg vs (Nat.zero_add _)))
    have i92 : b.eval (.tmp 92) = vs 11 := (congrArg (fun x => Act.eval x (.tmp 92)) hb).trans ((fill_in _ 0 11 _ _ 92 (by kernel_rfl) rfl rfl (by simp)).trans (congrArg vs (Nat.zero_add _)))
    have i93 : b.eval (.tmp 93) = vs 12 := (congrArg (fun x => Act.eval x (.tmp 93)) hb).trans ((fill_in _ 0 12 _ _ 93 (by kernel_rfl) rfl rfl (by simp)).trans (congrArg vs (Nat.zero_add _)))
    have i94 : b.eval (.tmp 94) = vs 13 := (congrArg (fun x => Act.eval x (.tmp 94)) hb).trans ((fill_in _ 0 13 _ _ 94 (by kernel_rfl) rfl rfl (by simp)).trans (congrArg vs (Nat.zero_add _)))
    have i95 : b.eval (.tmp 95) = vs 14 := (congrArg (fun x => Act.eval x (.tmp 95)) hb).trans ((fill_in _ 0 14 _ _ 95 (by kernel_rfl) rfl rfl (by simp)).trans (congrArg vs (Nat.zero_add _)))
    have i96 : b.eval (.tmp 96) = vs 15 := (congrArg (fun x => Act.eval x (.tmp 96)) hb).trans ((fill_in _ 0 15 _ _ 96 (by kernel_rfl) rfl rfl (by simp)).trans (congrArg vs (Nat.zero_add _)))
    have i97 : b.eval (.tmp 97) = vs 16 := (congrArg (fun x => Act.eval x (.tmp 97)) hb).trans ((fill_in _ 0 16 _ _ 97 (by kernel_rfl) rfl rfl (by simp)).trans (congrArg vs (Nat.zero_add _)))
    have i98 : b.eval (.tmp 98) = vs 17 := (congrArg (fun x => Act.eval x (.tmp 98)) hb).trans ((fill_in _ 0 17 _ _ 98 (by kernel_rfl) rfl rfl (by simp)).trans (congrArg vs (Nat.zero_add _)))
    have i99 : b.eval (.tmp 99) = vs 18 := (congrArg (fun x => Act.eval x (.tmp 99)) hb).trans ((fill_in _ 0 18 _ _ 99 (by kernel_rfl) rfl rfl (by simp)).trans (congrArg vs (Nat.zero_add _)))
    clear hb
    refine And.intro ?_ (And.intro ?_ (And.intro ?_ (And.intro ?_ (And.intro ?_ (And.intro ?_ (And.intro ?_ (And.intro ?_ (And.intro ?_ (And.intro ?_ (And.intro ?_ (And.intro ?_ (And.intro ?_ (And.intro ?_ (And.intro ?_ (And.intro ?_ (And.intro ?_ (And.intro ?_ (And.intro ?_ (And.intro ?_ (trivial))))))))))))))))))))
    · intro hp K hK
      refine g_no rfl ?_
      exact st_move (.inl rfl) (e7) (hK _ _ rfl hG (Below.refl _ _))
    · intro hp K hK
      refine g_no rfl ?_
      exact st_field rfl (e3) (by kernel_rfl) (hK _ _ rfl hG (Below.refl _ _))
    · intro hp K hK
      refine g_no rfl ?_
      have e82 : b.eval (.tmp 82) = .pointer (some ⟨w.heap.size, 0, none⟩) := i82.trans (hp 1 (by kernel_rfl))
      exact st_load rfl (e82) (ldw0 hG.1.1.b0) (hK _ _ rfl hG (Below.refl _ _))
    · intro hp K hK
      refine g_no rfl ?_
      exact st_field rfl (e3) (by kernel_rfl) (hK _ _ rfl hG (Below.refl _ _))
    · intro hp K hK
      refine g_no rfl ?_
      have e84 : b.eval (.tmp 84) = .pointer (some ⟨w.heap.size, 2, none⟩) := i84.trans (hp 3 (by kernel_rfl))
      exact st_load rfl (e84) (ldw2 hG.1.1.b0) (hK _ _ rfl hG (Below.refl _ _))
    · intro hp K hK
      refine g_no rfl ?_
      exact st_field rfl (e3) (by kernel_rfl) (hK _ _ rfl hG (Below.refl _ _))
    · intro hp K hK
      refine g_no rfl ?_
      have e86 : b.eval (.tmp 86) = .pointer (some ⟨w.heap.size, 4, none⟩) := i86.trans (hp 5 (by kernel_rfl))
      exact st_load rfl (e86) (ldw4 hG.1.1.b0) (hK _ _ rfl hG (Below.refl _ _))
    · intro hp K hK
      refine g_no rfl ?_
      exact st_field rfl (e3) (by kernel_rfl) (hK _ _ rfl hG (Below.refl _ _))
    · intro hp K hK
      refine g_no rfl ?_
      have e88 : b.eval (.tmp 88) = .pointer (some ⟨w.heap.size, 6, none⟩) := i88.trans (hp 7 (by kernel_rfl))
      exact st_load rfl (e88) (ldw6 hG.1.1.b0) (hK _ _ rfl hG (Below.refl _ _))
    · intro hp K hK
      refine g_no rfl ?_
      exact st_move (.inl rfl) (e1) (hK _ _ rfl hG (Below.refl _ _))
    · intro hp K hK
      refine g_no rfl ?_
      exact st_move (.inl rfl) (e2) (hK _ _ rfl hG (Below.refl _ _))
    · intro hp K hK
      refine g_no rfl ?_
      have e83 : b.eval (.tmp 83) = .agg #[.int .i64 n0, .int .i64 n1] := i83.trans (hp 2 (by kernel_rfl))
      have e85 : b.eval (.tmp 85) = .agg #[.int .i64 k0, .int .i64 k1] := i85.trans (hp 4 (by kernel_rfl))
      have e87 : b.eval (.tmp 87) = .agg #[.int .i64 s0, .int .i64 s1] := i87.trans (hp 6 (by kernel_rfl))
      have e89 : b.eval (.tmp 89) = .agg #[.int .i64 p0, .int .i64 p1, .int .i64 p2, .int .i64 p3] := i89.trans (hp 8 (by kernel_rfl))
      have e90 : b.eval (.tmp 90) = .int .i64 y := i90.trans (hp 9 (by kernel_rfl))
      have e91 : b.eval (.tmp 91) = .int .i64 x := i91.trans (hp 10 (by kernel_rfl))
      refine st_call rfl (by first | (simp only [List.map_toArray, List.map_cons, List.map_nil, eval_const, e83, e85, e87, e89, e90, e91]; done) | (simp only [List.map_toArray, List.map_cons, List.map_nil, eval_const, e83, e85, e87, e89, e90, e91]; rfl)) (by kernel_rfl) ?_
      refine (refTaps n0 n1 k0 k1 s0 s1 p0 p1 p2 p3 y x _ (by obtain ⟨h00, h01, h02, h03, h04, h10, h11, h12, h13, h14, ha, hb⟩ := goodV_iff.1 H.out; have := HY.out; have := HX.out; have := out_mid ⟨h00, h01, h02, h03, h04, ha⟩; have := out_mid ⟨h10, h11, h12, h13, h14, hb⟩; omega)).mono ?_
      rintro e w' ⟨v, rfl, hown, hb'⟩; obtain ⟨a2, c2, rfl⟩ := own_slice hown
      exact ⟨_, rfl, hK _ _ ⟨a2, c2, rfl, ⟨hown.1, hown.2.imp id (fun ⟨gq, cap, cur, h1, h2, h3⟩ => ⟨gq, cap, cur, h1, Nat.le_trans (by have := hG.1.1.size; omega) h2, h3⟩)⟩⟩ ⟨⟨hG.1.1.step hb', ownsRow_below hG.1.2 hb'⟩, blk_below hG.2 hb'⟩ hb'⟩
    · intro hp K hK
      refine g_no rfl ?_
      have e81 : b.eval (.tmp 81) = .slice a_ (tapsL n0 n1 k1 s0 s1 p0 p1 y x (k0 * k1).toNat).length c_ := i81.trans (hp 0 (by kernel_rfl))
      have q11 : ∃ a c, (vs 11) = .slice a (tapsL n0 n1 k1 s0 s1 p0 p1 y x (k0 * k1).toNat).length c ∧ W.ownsRow w.heap.size 34 2 (.slice a (tapsL n0 n1 k1 s0 s1 p0 p1 y x (k0 * k1).toNat).length c) (tapsL n0 n1 k1 s0 s1 p0 p1 y x (k0 * k1).toNat).length (flat (tapsL n0 n1 k1 s0 s1 p0 p1 y x (k0 * k1).toNat)) := hp 11 (by kernel_rfl)
      obtain ⟨a2, c2, hv, hown⟩ := q11
      have e92 := i92.trans hv
      refine st_call rfl (by first | (simp only [List.map_toArray, List.map_cons, List.map_nil, eval_const, e81, e92]; done) | (simp only [List.map_toArray, List.map_cons, List.map_nil, eval_const, e81, e92]; rfl)) (by kernel_rfl) ?_
      refine (same_is (tapsL n0 n1 k1 s0 s1 p0 p1 y x (k0 * k1).toNat) w.heap.size w.heap.size a_ a2 c_ c2 _ (by have : (tapsL n0 n1 k1 s0 s1 p0 p1 y x (k0 * k1).toNat).length ≤ (k0 * k1).toNat := tapsL_le; have hk := prodb (a := k0) (b := k1) (c := 8) (d := 8) (by have := goodV_iff.1 H.out; omega) (by have := goodV_iff.1 H.out; omega); omega) hG.1.2 hown).mono ?_
      rintro e w' ⟨rfl, hb'⟩
      exact ⟨_, rfl, hK _ _ rfl ⟨⟨hG.1.1.step hb', ownsRow_below hG.1.2 hb'⟩, blk_below hG.2 hb'⟩ hb'⟩
    · intro hp K hK
      refine g_no rfl ?_
      have e93 : b.eval (.tmp 93) = .bool true := i93.trans (hp 12 (by kernel_rfl))
      exact st_move (.inl rfl) (e93) (hK _ _ rfl hG (Below.refl _ _))
    · intro hp K hK
      refine g_is (j := 13) (want := true) (c := true) rfl (yielded_of (d := 94) rfl rfl (i94.trans (hp 13 (by kernel_rfl)))) (fun hb => ?_) (fun hb => hK _ _ (cond_no hb) hG (Below.refl _ _))
      exact st_move (.inl rfl) (e8) (hK _ _ (cond_yes hb).symm hG (Below.refl _ _))
    · intro hp K hK
      refine g_no rfl ?_
      have e94 : b.eval (.tmp 94) = .bool true := i94.trans (hp 13 (by kernel_rfl))
      have e95 : b.eval (.tmp 95) = (bif ((true) == true) then (.bool true) else undef) := i95.trans (hp 14 (by kernel_rfl))
      exact st_pick rfl (e94) (by first | (rw [e95]; exact pick_and) | (rw [show b.eval (Operand.tmp 95) = _ from eval_const _]; exact pick_and)) (hK _ _ rfl hG (Below.refl _ _))
    · intro hp K hK
      refine g_no rfl ?_
      have e96 : b.eval (.tmp 96) = .bool (true && true) := i96.trans (hp 15 (by kernel_rfl))
      exact st_move (.inl rfl) (e96) (hK _ _ rfl hG (Below.refl _ _))
    · intro hp K hK
      refine g_is (j := 16) (want := true) (c := true && true) rfl (yielded_of (d := 97) rfl rfl (i97.trans (hp 16 (by kernel_rfl)))) (fun hb => ?_) (fun hb => hK _ _ (cond_no hb) hG (Below.refl _ _))
      refine st_call rfl (by first | (simp only [List.map_toArray, List.map_cons, List.map_nil, eval_const]; done) | (simp only [List.map_toArray, List.map_cons, List.map_nil, eval_const]; rfl)) (by kernel_rfl) ?_
      refine (lives_is _).mono ?_
      rintro e w' ⟨rfl, hb'⟩
      exact ⟨_, rfl, hK _ _ (cond_yes hb).symm ⟨⟨hG.1.1.step hb', ownsRow_below hG.1.2 hb'⟩, blk_below hG.2 hb'⟩ hb'⟩
    · intro hp K hK
      refine g_no rfl ?_
      have e97 : b.eval (.tmp 97) = .bool (true && true) := i97.trans (hp 16 (by kernel_rfl))
      have e98 : b.eval (.tmp 98) = (bif ((true && true) == true) then (.bool true) else undef) := i98.trans (hp 17 (by kernel_rfl))
      exact st_pick rfl (e97) (by first | (rw [e98]; exact pick_and) | (rw [show b.eval (Operand.tmp 98) = _ from eval_const _]; exact pick_and)) (hK _ _ rfl hG (Below.refl _ _))
    · intro hp K hK
      refine g_no rfl ?_
      have e99 : b.eval (.tmp 99) = .bool ((true && true) && true) := i99.trans (hp 18 (by kernel_rfl))
      exact st_move (.inr rfl) (e99) (hK _ _ rfl hG (Below.refl _ _))
  intro vs W hG hp b hb
  have q11 : ∃ a c, (vs 11) = .slice a (tapsL n0 n1 k1 s0 s1 p0 p1 y x (k0 * k1).toNat).length c ∧ W.ownsRow w.heap.size 34 2 (.slice a (tapsL n0 n1 k1 s0 s1 p0 p1 y x (k0 * k1).toNat).length c) (tapsL n0 n1 k1 s0 s1 p0 p1 y x (k0 * k1).toNat).length (flat (tapsL n0 n1 k1 s0 s1 p0 p1 y x (k0 * k1).toNat)) := hp 11 (by decide)
  have q19 : vs 19 = .bool ((true && true) && true) := hp 19 (by decide)
  clear hp
  simp only [fill, Act.put, List.append_eq, List.cons_append, List.nil_append, List.take_succ_cons, List.take_zero, List.setIfInBounds_toArray, List.set_cons_succ, List.set_cons_zero, Nat.reduceAdd, Nat.zero_add, q19] at hb
  subst hb
  refine wpList_nil ?_
  clear q19
  clear q11
  refine HK8.out _ _ ?_
  clear HK8
  have hG := Lib.hid hG
  go_wp2
  go_ret
  exact ⟨rfl, hG.out.1.1.bel⟩
theorem wd_of {y : Int} (h : IntKind.i64.has y) : Wd y := by
  have h1 : -9223372036854775808 ≤ y := h.1
  have h2 : y ≤ 9223372036854775807 := h.2
  show y.natAbs < 18446744073709551616
  omega
theorem taps_law (n0 n1 k0 k1 s0 s1 p0 p1 p2 p3 y x : Int) (w : World) (hy : IntKind.i64.has y) (hx : IntKind.i64.has x) : Calls Try.prog 9 #[.agg #[.int .i64 n0, .int .i64 n1, .int .i64 k0, .int .i64 k1, .int .i64 s0, .int .i64 s1, .int .i64 p0, .int .i64 p1, .int .i64 p2, .int .i64 p3], .int .i64 y, .int .i64 x] w (fun e w' => e = .returned (.bool true) ∧ Below w.heap.size w w') := by
  cases h : goodV n0 n1 k0 k1 s0 s1 p0 p1 p2 p3
  · exact tapsl_bad n0 n1 k0 k1 s0 s1 p0 p1 p2 p3 y x w h
  · cases ho : wiB y x (outV n0 k0 s0 p0 p2) (outV n1 k1 s1 p1 p3)
    · exact tapsl_out n0 n1 k0 k1 s0 s1 p0 p1 p2 p3 y x w h ⟨wd_of hy, wd_of hx⟩ ho
    · simp only [wiB, Bool.and_eq_true, decide_eq_true_eq] at ho
      exact tapsl_good n0 n1 k0 k1 s0 s1 p0 p1 p2 p3 y x w h ⟨ho.1.1.1, ho.1.2⟩ ⟨ho.1.1.2, ho.2⟩
end Go.Proofs.Ytfcimgdogkpbcaa.W
