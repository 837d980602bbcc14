/- The reader: a constant is read. -/
import Derived.Test.YtieoklpgnmbpjaaE5b
namespace Go.Proofs.Ytieoklpgnmbpjaa.Gr
open Go.RowKit Dr
open Go.Proofs.YtieoklpgnmbpjaaW.PrintWords (Kd Kd.C Kd.R Kd.C_below Kd.C_get Kd.R_below Kd.R_reads Kd.R_reads' Kd.R_types Kd.R_step Kd.R_alloc Kd.R_drew Kd.R_lower add_field Kd.R_append Kd.R_bound Kd.R_move Kd.R_mono Kd.R_nil Kd.R_set Kd.R_ne Kd.R_over' Kd.R_typed Kd.C_nil Kd.R_slice Kd.R_append_rows)
set_option linter.unusedVariables false
set_option linter.unusedSimpArgs false
set_option maxRecDepth 100000
theorem map_snoc {f : Int → Int} {xs : List Int} {i : Nat} {x : Int} (h : xs[i]? = some x) : (xs.take (i + 1)).map f = (xs.take i).map f ++ [f x] := by
  rw [List.take_add_one, h, List.map_append]
  rfl
theorem many_eq (s : List Int × Int) : ∃ (m : Nat) (s1 : List Int × Int), many 65536 s = ((m : Int), s1) ∧ m ≤ 65536 ∧ m = (many 65536 s).1.toNat ∧ s1 = (many 65536 s).2 := by
  have h := many_in (most := 65536) (by decide) s
  refine ⟨(many 65536 s).1.toNat, (many 65536 s).2, ?_, by omega, rfl, rfl⟩
  rw [Int.toNat_of_nonneg h.1]
theorem many_m (b g : Nat) (s s1 : List Int × Int) (m : Nat) (w : World) (hm : many 65536 s = ((m : Int), s1)) (hb : b ≤ g) (ho : okB s.1) (h : RD w b g s) :
    Calls Try.prog 20 #[.pointer (some ⟨g, 0, none⟩), .int .i64 65536] w fun e w' => e = .returned (.int .i64 (m : Int)) ∧ RD w' b g s1 ∧ w.grownBy w' (some g) := by
  have := many_is b g 65536 s w hb ho h
  rw [hm] at this
  exact this
set_option maxHeartbeats 8000000 in
theorem const_is (b g : Nat) (s : List Int × Int) (w : World) (hb : b ≤ g) (ho : okB s.1) (h : RD w b g s) :
    Calls Try.prog 22 #[.pointer (some ⟨g, 0, none⟩)] w fun e w' => ∃ u v, e = .returned (.agg #[u, v]) ∧ Kd.R (Kd.int .i8) 61 w' w.heap.size (fun _ => True) u (con s).1.1 ∧ Kd.R (Kd.int .i32) 21 w' w.heap.size (fun _ => True) v (con s).1.2 ∧ RD w' b g (con s).2 ∧ w.grownBy w' (some g) := by
  have hgw := RD_lt h
  have hS : CS w b g (w.alloc (.cells #[.slice none 0 0, .slice none 0 0] 42)) (.slice none 0 0) (.slice none 0 0) [] [] s :=
    ⟨blk_new _ _, Kd.R_nil _ _ _ _ _, Kd.R_nil _ _ _ _ _, RD_step h (below_alloc (Below.refl _ _) _ |>.mono (by omega)) (Below.heap_alloc _ _ _ hgw), grown_below (below_alloc (Below.refl _ _) _) _⟩
  have HS := Lib.hid hS
  clear h hS
  obtain ⟨m1, s1, hm1, hl1, em1, es1⟩ := many_eq s
  have ok1 : okB s1.1 := by rw [es1]; exact many_ok ho
  have EM1 := Lib.hid em1
  have ES1 := Lib.hid es1
  have HM1 := Lib.hid hm1
  clear em1 es1 hm1
  go_enter Try.func22, Try.ntmps22
  apply wp_seq_k; intro K1 hK1; have HK1 := Lib.hid hK1; clear hK1
  go_wp2
  refine HK1.out _ _ ?_; clear HK1
  apply wp_seq_k; intro K1 hK1; have HK1 := Lib.hid hK1; clear hK1
  go_wp2_with (first
    | (go_at_call 20; refine (many_m b g s s1 m1 _ HM1.out hb ho HS.out.rd).mono ?_; rintro e w1 ⟨rfl, hR1, hg1⟩; have HS1 := Lib.hid (HS.out.grown hg1 hgw hR1); clear HS hR1 hg1)
    | (go_at_call 25; refine (take_in b g s1 m1 _ hb HS1.out.rd).mono ?_; rintro e w2 ⟨⟨A, c, rfl, hA, hC⟩, hR1, hg1⟩; have HS2 := Lib.hid (HS1.out.grown hg1 hgw hR1); clear HS1 hR1 hg1))
  have hbw : b ≤ w.heap.size := by omega
  have hCw : Kd.C (Kd.int .u8) w A ((take m1 s1).1.getD []).length ((take m1 s1).1.getD []) := C_int hC (fun a ha => (HS2.out.gr.block _ (by have := hA a ha; omega) (fun e => by injection e with e; have := hA a ha; omega)).symm)
  have hl2 := take_len (n := m1) (s := s1)
  obtain ⟨xs, hxs⟩ : ∃ xs, (take m1 s1).1.getD [] = xs := ⟨_, rfl⟩
  obtain ⟨s2, hs2⟩ : ∃ s2, (take m1 s1).2 = s2 := ⟨_, rfl⟩
  have ok2 : okB s2.1 := by rw [← hs2]; exact take_ok ok1
  rw [hs2] at HS2
  rw [hxs] at hl2 hCw ⊢
  have HC := Lib.hid hCw
  have HXS := Lib.hid hxs
  have HS2' := Lib.hid hs2
  clear hC hCw hxs hs2
  refine wp_loopS [4, 10, 11, 12, 13, 14, 15, 16, 17, 18, 19, 20, 21] (fun sl W => ∃ i : Nat, sl 10 = .int .i64 (i : Int) ∧ i ≤ xs.length ∧ ∃ u, CS w b g W u (.slice none 0 0) ((xs.take i).map IntKind.i8.wrap) [] s2) (fun sl W => Msr (xs.length : Int) (sl 10)) ⟨0, rfl, Nat.zero_le _, _, HS2.out⟩ ?_
  intro vs W a hb' hI
  obtain ⟨i, hsl, hi, u, hS⟩ := hI
  simp only [setSlots, Act.put, List.setIfInBounds_toArray, List.set_cons_succ, List.set_cons_zero] at hb'
  subst hb'
  replace hsl : vs 10 = .int .i64 (i : Int) := hsl
  rw [hsl]
  clear hsl
  have HS := Lib.hid hS
  clear hS HS2
  by_cases hil : i < xs.length
  · have hd : decide ((i : Int) < (xs.length : Int)) = true := by simp; omega
    have hinc : IntKind.i64.wrap ((i : Int) + 1) = (i : Int) + 1 := IntWalk.i64_in _ (by omega)
    obtain ⟨x, hx⟩ : ∃ x, xs[i]? = some x := ⟨_, List.getElem?_eq_getElem hil⟩
    obtain ⟨ad, hAd, -⟩ := HC.out.2.2 (by omega)
    subst hAd
    have hcell : W.cell? (ad.add i) = some (.int .u8 x) := C_cell (C_int HC.out (fun a ha => HS.out.gr.block _ (by have := hA a ha; omega) (fun e => by injection e with e; have := hA a ha; omega))) hx
    have hix := fun W => ix28 ad xs.length c i hil W
    have c0 : W.cell? ⟨w.heap.size, 0, none⟩ = some u := (blk_cell HS.out.blk 0).trans rfl
    have HX := Lib.hid hx
    clear hx
    go_wp2_with ((with_reducible refine gate_builtin (b := .append) (xs := #[.tmp 15, .tmp 18]) rfl ?_); at_builtin; refine Kd.R_append (Kd.int .i8) (w0 := W) w.heap.size rfl (.tmp 15) (.tmp 18) 39 61 (.int .i8 0) 1 rfl Try.underlying39 info61 rfl (by decide) (by omega) u ((xs.take i).map IntKind.i8.wrap) (IntKind.i8.wrap x) [.int .i8 (IntKind.i8.wrap x)] (fun _ => True) (fun _ => False) rfl rfl rfl (fun _ hk => hk.elim) (fun _ _ => trivial) HS.out.ru (Below.refl _ _) HS.out.gr.size (by rw [List.length_map, List.length_take]; omega) ?_; intro v1 w3 ho3 hb3 hg3 hat3; obtain ⟨A1, n1, c1, rfl⟩ := R_slc ho3; have HS3 := Lib.hid (HS.out.setu hgw hb ho3 hb3 hg3); have hk3 := (hg3.block _ (blk_lt HS.out.blk) (Kd.R_ne HS.out.ru HS.out.blk (by decide))).trans HS.out.blk; have c3 : w3.cell? ⟨w.heap.size, 0, none⟩ = some u := (blk_cell hk3 0).trans rfl; have f3 := blk_frozen hk3 0; clear ho3 hb3 hg3 hat3 hk3)
    exact ⟨loop_frame (by kernel_rfl), ⟨i + 1, by show Value.int .i64 _ = _; simp, by omega, _, by rw [map_snoc HX.out]; exact HS3.out⟩, Msr.lt (by omega)⟩
  · have hd : decide ((i : Int) < (xs.length : Int)) = false := by simp; omega
    obtain rfl : i = xs.length := by omega
    rw [List.take_length] at HS
    go_wp2
    refine HK1.out _ _ ?_; clear HK1
    obtain ⟨m2, s3, hm2, hl3, em2, es3⟩ := many_eq s2
    have ok3 : okB s3.1 := by rw [es3]; exact many_ok ok2
    have EM2 := Lib.hid em2
    have ES3 := Lib.hid es3
    have HM2 := Lib.hid hm2
    clear em2 es3 hm2
    go_wp2_with (go_at_call 20; refine (many_m b g s2 s3 m2 _ HM2.out hb ok2 HS.out.rd).mono ?_; rintro e w3 ⟨rfl, hR1, hg1⟩; have HS3 := Lib.hid (HS.out.grown hg1 hgw hR1); clear HS hR1 hg1)
    refine wp_loopS [24, 25, 26, 27, 28, 29, 30, 31, 32, 33, 34, 35, 36, 37, 38, 39] (fun sl W => ∃ i : Nat, sl 24 = .int .i64 (i : Int) ∧ i ≤ m2 ∧ ∃ v, CS w b g W u v (xs.map IntKind.i8.wrap) (wrd i s3).1 (wrd i s3).2) (fun sl W => Msr (m2 : Int) (sl 24)) ⟨0, rfl, Nat.zero_le _, _, HS3.out⟩ ?_
    clear HS3
    intro vs2 W2 a2 hb' hI
    obtain ⟨i, hsl, hi, v, hS⟩ := hI
    simp only [setSlots, Act.put, List.setIfInBounds_toArray, List.set_cons_succ, List.set_cons_zero] at hb'
    subst hb'
    replace hsl : vs2 24 = .int .i64 (i : Int) := hsl
    rw [hsl]
    clear hsl
    have HS := Lib.hid hS
    clear hS
    have oki := wrd_ok ok3 i
    have hwl := wrd_len s3 i
    by_cases hil : i < m2
    rotate_left
    · have hd : decide ((i : Int) < (m2 : Int)) = false := by simp; omega
      have hfin : wrd m2 s3 = wrd i s3 := by rw [show m2 = i by omega]
      have hcon : con s = ((xs.map IntKind.i8.wrap, (wrd i s3).1), ((wrd i s3).2.1, if 0 < (xs.map IntKind.i8.wrap).length ∧ 0 < (wrd i s3).1.length then fails 4 (wrd i s3).2.2 else (wrd i s3).2.2)) := by
        have e1 : cby s = (xs.map IntKind.i8.wrap, s2) := by
          unfold cby
          rw [← EM1.out, ← ES1.out, HXS.out, HS2'.out]
        have e2 : cwd s2 = wrd i s3 := by
          unfold cwd
          rw [← EM2.out, ← ES3.out, hfin]
        unfold con
        rw [e1, e2]
      have HCON := Lib.hid hcon
      clear hcon hfin
      obtain ⟨A1, c1, rfl⟩ := Kd.R_slice HS.out.ru
      obtain ⟨A2, c2, rfl⟩ := Kd.R_slice HS.out.rv
      generalize hr : wrd i s3 = r at *
      generalize hbs : xs.map IntKind.i8.wrap = bs at *
      have c0 : W2.cell? ⟨w.heap.size, 0, none⟩ = some (.slice A1 bs.length c1) := (blk_cell HS.out.blk 0).trans rfl
      have k1 : W2.cell? ⟨w.heap.size, 1, none⟩ = some (.slice A2 r.1.length c2) := (blk_cell HS.out.blk 1).trans rfl
      have f0 := blk_frozen HS.out.blk 0
      have f1 := blk_frozen HS.out.blk 1
      have hld : ∀ W4, W4.heap[w.heap.size]? = some (.cells #[.slice A1 bs.length c1, .slice A2 r.1.length c2] 42 (0, 0)) → (loadVar 42 ⟨w.heap.size, 0, none⟩).run Try.prog W4 = .ok (.agg #[.slice A1 bs.length c1, .slice A2 r.1.length c2]) W4 := fun W4 h => ld_all 42 _ h Try.underlying42 rfl (by kernel_rfl)
      by_cases h1 : 0 < bs.length
      rotate_left
      · have d1 : decide ((0 : Int) < (bs.length : Int)) = false := decide_eq_false (by omega)
        have hl4 := hld _ HS.out.blk
        have hz := Lib.hid (show (if 0 < bs.length ∧ 0 < r.1.length then fails 4 r.2.2 else r.2.2) = r.2.2 from if_neg (fun h => h1 h.1))
        go_wp2
        have HF := HS.out.again hgw hb
        refine bodyPost_ret (results_c rfl _ _ (w.heap.size) 42 #[.slice A1 bs.length c1, .slice A2 r.1.length c2] (0, 0) _ rfl HF.blk Try.underlying42 rfl (by kernel_rfl)) rfl ?_
        rw [HCON.out, hz.out]
        exact ⟨_, _, rfl, HF.ru, HF.rv, HF.rd, HF.gr⟩
      · have d1 : decide ((0 : Int) < (bs.length : Int)) = true := decide_eq_true (by omega)
        by_cases h2 : 0 < r.1.length
        rotate_left
        · have d2 : decide ((0 : Int) < (r.1.length : Int)) = false := decide_eq_false (by omega)
          have hz := Lib.hid (show (if 0 < bs.length ∧ 0 < r.1.length then fails 4 r.2.2 else r.2.2) = r.2.2 from if_neg (fun h => h2 h.2))
          go_wp2
          have HF := HS.out.again hgw hb
          refine bodyPost_ret (results_c rfl _ _ (w.heap.size) 42 #[.slice A1 bs.length c1, .slice A2 r.1.length c2] (0, 0) _ rfl HF.blk Try.underlying42 rfl (by kernel_rfl)) rfl ?_
          rw [HCON.out, hz.out]
          exact ⟨_, _, rfl, HF.ru, HF.rv, HF.rd, HF.gr⟩
        · have d2 : decide ((0 : Int) < (r.1.length : Int)) = true := decide_eq_true (by omega)
          have hz := Lib.hid (show (if 0 < bs.length ∧ 0 < r.1.length then fails 4 r.2.2 else r.2.2) = fails 4 r.2.2 from if_pos ⟨h1, h2⟩)
          go_wp2_with (go_at_call 24; refine (fails_is b g r.2 4 _ hb HS.out.rd).mono ?_; rintro e w4 ⟨rfl, hR4, hg4⟩; have HS4 := Lib.hid (HS.out.grown hg4 hgw hR4); clear hR4 hg4; have hl5 := hld _ HS4.out.blk; have c04 := (blk_cell HS4.out.blk 0).trans (show _ = some (Value.slice A1 bs.length c1) from rfl); have c14 := (blk_cell HS4.out.blk 1).trans (show _ = some (Value.slice A2 r.1.length c2) from rfl); have f04 := blk_frozen HS4.out.blk 0; have f14 := blk_frozen HS4.out.blk 1)
          go_wp2
          have HF := HS4.out.again hgw hb
          refine bodyPost_ret (results_c rfl _ _ (w.heap.size) 42 #[.slice A1 bs.length c1, .slice A2 r.1.length c2] (0, 0) _ rfl HF.blk Try.underlying42 rfl (by kernel_rfl)) rfl ?_
          rw [HCON.out, hz.out]
          exact ⟨_, _, rfl, HF.ru, HF.rv, HF.rd, HF.gr⟩
    · have hd : decide ((i : Int) < (m2 : Int)) = true := decide_eq_true (by omega)
      obtain ⟨adg, cg, hgb, -⟩ := HS.out.rd
      have cg1 : W2.cell? ⟨g, 1, none⟩ = some (.int .i64 (wrd i s3).2.2) := (blk_cell hgb 1).trans rfl
      clear hgb
      by_cases he : (wrd i s3).2.2 = 0
      rotate_left
      · have hn : ((wrd i s3).2.2 != 0) = true := by simpa using he
        have hfin : wrd m2 s3 = wrd i s3 := by rw [show m2 = i + (m2 - i) by omega]; exact wrd_stop he _
        clear he
        have hcon : con s = ((xs.map IntKind.i8.wrap, (wrd i s3).1), ((wrd i s3).2.1, if 0 < (xs.map IntKind.i8.wrap).length ∧ 0 < (wrd i s3).1.length then fails 4 (wrd i s3).2.2 else (wrd i s3).2.2)) := by
          have e1 : cby s = (xs.map IntKind.i8.wrap, s2) := by
            unfold cby
            rw [← EM1.out, ← ES1.out, HXS.out, HS2'.out]
          have e2 : cwd s2 = wrd i s3 := by
            unfold cwd
            rw [← EM2.out, ← ES3.out, hfin]
          unfold con
          rw [e1, e2]
        have HCON := Lib.hid hcon
        clear hcon hfin
        obtain ⟨A1, c1, rfl⟩ := Kd.R_slice HS.out.ru
        obtain ⟨A2, c2, rfl⟩ := Kd.R_slice HS.out.rv
        generalize hr : wrd i s3 = r at *
        generalize hbs : xs.map IntKind.i8.wrap = bs at *
        have c0 : W2.cell? ⟨w.heap.size, 0, none⟩ = some (.slice A1 bs.length c1) := (blk_cell HS.out.blk 0).trans rfl
        have k1 : W2.cell? ⟨w.heap.size, 1, none⟩ = some (.slice A2 r.1.length c2) := (blk_cell HS.out.blk 1).trans rfl
        have f0 := blk_frozen HS.out.blk 0
        have f1 := blk_frozen HS.out.blk 1
        have hld : ∀ W4, W4.heap[w.heap.size]? = some (.cells #[.slice A1 bs.length c1, .slice A2 r.1.length c2] 42 (0, 0)) → (loadVar 42 ⟨w.heap.size, 0, none⟩).run Try.prog W4 = .ok (.agg #[.slice A1 bs.length c1, .slice A2 r.1.length c2]) W4 := fun W4 h => ld_all 42 _ h Try.underlying42 rfl (by kernel_rfl)
        by_cases h1 : 0 < bs.length
        rotate_left
        · have d1 : decide ((0 : Int) < (bs.length : Int)) = false := decide_eq_false (by omega)
          have hl4 := hld _ HS.out.blk
          have hz := Lib.hid (show (if 0 < bs.length ∧ 0 < r.1.length then fails 4 r.2.2 else r.2.2) = r.2.2 from if_neg (fun h => h1 h.1))
          go_wp2
          have HF := HS.out.again hgw hb
          refine bodyPost_ret (results_c rfl _ _ (w.heap.size) 42 #[.slice A1 bs.length c1, .slice A2 r.1.length c2] (0, 0) _ rfl HF.blk Try.underlying42 rfl (by kernel_rfl)) rfl ?_
          rw [HCON.out, hz.out]
          exact ⟨_, _, rfl, HF.ru, HF.rv, HF.rd, HF.gr⟩
        · have d1 : decide ((0 : Int) < (bs.length : Int)) = true := decide_eq_true (by omega)
          by_cases h2 : 0 < r.1.length
          rotate_left
          · have d2 : decide ((0 : Int) < (r.1.length : Int)) = false := decide_eq_false (by omega)
            have hz := Lib.hid (show (if 0 < bs.length ∧ 0 < r.1.length then fails 4 r.2.2 else r.2.2) = r.2.2 from if_neg (fun h => h2 h.2))
            go_wp2
            have HF := HS.out.again hgw hb
            refine bodyPost_ret (results_c rfl _ _ (w.heap.size) 42 #[.slice A1 bs.length c1, .slice A2 r.1.length c2] (0, 0) _ rfl HF.blk Try.underlying42 rfl (by kernel_rfl)) rfl ?_
            rw [HCON.out, hz.out]
            exact ⟨_, _, rfl, HF.ru, HF.rv, HF.rd, HF.gr⟩
          · have d2 : decide ((0 : Int) < (r.1.length : Int)) = true := decide_eq_true (by omega)
            have hz := Lib.hid (show (if 0 < bs.length ∧ 0 < r.1.length then fails 4 r.2.2 else r.2.2) = fails 4 r.2.2 from if_pos ⟨h1, h2⟩)
            go_wp2_with (go_at_call 24; refine (fails_is b g r.2 4 _ hb HS.out.rd).mono ?_; rintro e w4 ⟨rfl, hR4, hg4⟩; have HS4 := Lib.hid (HS.out.grown hg4 hgw hR4); clear hR4 hg4; have hl5 := hld _ HS4.out.blk; have c04 := (blk_cell HS4.out.blk 0).trans (show _ = some (Value.slice A1 bs.length c1) from rfl); have c14 := (blk_cell HS4.out.blk 1).trans (show _ = some (Value.slice A2 r.1.length c2) from rfl); have f04 := blk_frozen HS4.out.blk 0; have f14 := blk_frozen HS4.out.blk 1)
            go_wp2
            have HF := HS4.out.again hgw hb
            refine bodyPost_ret (results_c rfl _ _ (w.heap.size) 42 #[.slice A1 bs.length c1, .slice A2 r.1.length c2] (0, 0) _ rfl HF.blk Try.underlying42 rfl (by kernel_rfl)) rfl ?_
            rw [HCON.out, hz.out]
            exact ⟨_, _, rfl, HF.ru, HF.rv, HF.rd, HF.gr⟩
      · rw [he] at cg1
        have hinc : IntKind.i64.wrap ((i : Int) + 1) = (i : Int) + 1 := IntWalk.i64_in _ (by omega)
        go_wp2
        refine wp_drawnD (R := RG b g ((num ((wrd i s3).2)).2)) 6 [.val (.pointer (some ⟨w.heap.size, 1, none⟩)), .val (v), .val (.pointer (some ⟨g, 0, none⟩)), callS b g ((num ((wrd i s3).2)).2) (.int .i64 (num ((wrd i s3).2)).1), .val (.int .i32 (IntKind.i32.wrap (num ((wrd i s3).2)).1)), newR b g ((num ((wrd i s3).2)).2) #[.int .i32 (IntKind.i32.wrap (num ((wrd i s3).2)).1)] 21] (GD b g 3 ((wrd i s3).2) ((num ((wrd i s3).2)).2) W2) rfl (by kernel_rfl) ⟨by rw [if_neg (by decide)]; exact RD_step HS.out.rd ((Below.refl _ _).drew) rfl, grown_below (Below.refl _ _).drew _, hb, RD_lt HS.out.rd⟩ ?_ ?_
        · intro vs W d hG a1 ha1
          have e0 : a1.eval (.tmp 0) = .pointer (some ⟨g, 0, none⟩) := eo ha1 (by kernel_rfl)
          have e2 : a1.eval (.tmp 2) = .pointer (some ⟨w.heap.size, 0, none⟩) := eo ha1 (by kernel_rfl)
          have i31 := ei (d := 31) ha1 0 (by kernel_rfl) rfl rfl (by simp)
          have i33 := ei (d := 33) ha1 2 (by kernel_rfl) rfl rfl (by simp)
          have i34 := ei (d := 34) ha1 3 (by kernel_rfl) rfl rfl (by simp)
          have i35 := ei (d := 35) ha1 4 (by kernel_rfl) rfl rfl (by simp)
          clear ha1
          refine And.intro ?_ (And.intro ?_ (And.intro ?_ (And.intro ?_ (And.intro ?_ (And.intro ?_ (trivial))))))
          · intro hd hp K hK
            refine g_no rfl ?_
            exact st_field rfl (e2) (by kernel_rfl) (hK _ _ rfl (GD_other hG (by decide)) (RG_refl _ _ _ _))
          · intro hd hp K hK
            refine g_no rfl ?_
            have e31 : a1.eval (.tmp 31) = _ := i31.trans (hp 0 (by kernel_rfl))
            exact st_load rfl (e31) (ld_cell 40 (by kernel_rfl) ((blk_cell ((hG.2.1.block _ (blk_lt HS.out.blk) (fun e => by injection e with e; omega)).trans HS.out.blk) 1).trans rfl)) (hK _ _ rfl (GD_other hG (by decide)) (RG_refl _ _ _ _))
          · intro hd hp K hK
            refine g_no rfl ?_
            exact st_move (.inl rfl) (e0) (hK _ _ rfl (GD_other hG (by decide)) (RG_refl _ _ _ _))
          · intro hd hp K hK
            refine g_no rfl ?_
            have e33 : a1.eval (.tmp 33) = _ := i33.trans (hp 2 (by kernel_rfl))
            refine st_call rfl (by first | (simp only [List.map_toArray, List.map_cons, List.map_nil, eval_const, e33]; done) | (simp only [List.map_toArray, List.map_cons, List.map_nil, eval_const, e33]; rfl)) (by kernel_rfl) ?_
            refine (number_is b g ((wrd i s3).2) _ hb (oki) (GD_call hG hd)).mono ?_
            rintro e w' ⟨rfl, hR', hg'⟩
            exact ⟨_, rfl, hK _ _ ⟨rfl, hR'⟩ (GD_done hG hR' hg') ⟨hg', fun _ => hR'⟩⟩
          · intro hd hp K hK
            refine g_no rfl ?_
            have q3 : (vs 3) = .int .i64 (num ((wrd i s3).2)).1 ∧ RD W b g ((num ((wrd i s3).2)).2) := hp 3 (by kernel_rfl)
            
            have e34 := i34.trans q3.1
            exact st_conv rfl (e34) (by kernel_rfl) (hK _ _ rfl (GD_other hG (by decide)) (RG_refl _ _ _ _))
          · intro hd hp K hK
            refine g_no rfl ?_
            have e35 : a1.eval (.tmp 35) = _ := i35.trans (hp 4 (by kernel_rfl))
            exact st_buildSlice rfl (by first | (simp only [List.map_toArray, List.map_cons, List.map_nil, eval_const, e35]; done) | (simp only [List.map_toArray, List.map_cons, List.map_nil, eval_const, e35]; rfl)) (by kernel_rfl) (hK _ _ ⟨_, rfl, blk_new _ _, RG_new hG⟩ (GD_alloc hG (by decide) _) (RG_alloc hG _))
        intro vs W d hG hp a1 ha1
        have q0 : vs 0 = _ := hp 0 (by decide)
        have q1 : vs 1 = _ := hp 1 (by decide)
        have q2 : vs 2 = _ := hp 2 (by decide)
        have q3 : (vs 3) = .int .i64 (num ((wrd i s3).2)).1 ∧ RD W b g ((num ((wrd i s3).2)).2) := hp 3 (by decide)
        have q4 : vs 4 = _ := hp 4 (by decide)
        have q5 : ∃ gg, (vs 5) = .slice (some ⟨gg, 0, none⟩) 1 1 ∧ W.heap[gg]? = some (.cells #[.int .i32 (IntKind.i32.wrap (num ((wrd i s3).2)).1)] 21 (0, 0)) ∧ g < gg := hp 5 (by decide)
        clear hp
        simp only [fill, Act.put, List.append_eq, List.cons_append, List.nil_append, List.take_succ_cons, List.take_zero, List.setIfInBounds_toArray, List.set_cons_succ, List.set_cons_zero, Nat.reduceAdd, Nat.zero_add, q0, q1, q2, q4] at ha1
        subst ha1
        simp only [List.append_eq, List.cons_append, List.nil_append, List.drop_succ_cons, List.drop_zero]
        clear q0 q1 q2 q4
        obtain ⟨-, hR5⟩ := q3
        obtain ⟨gg, hv5, hgg, hgl⟩ := q5
        rw [hv5]
        clear hv5
        have HCS := Lib.hid (HS.out.grown hG.2.1 hgw hR5)
        clear hR5 hG HS cg1
        have wx : ∃ x, IntKind.i32.wrap (num (wrd i s3).2).1 = x := ⟨_, rfl⟩
        obtain ⟨x, hx⟩ := wx
        have hws : wrd (i + 1) s3 = ((wrd i s3).1 ++ [x], (num (wrd i s3).2).2) := by
          show (if (wrd i s3).2.2 = 0 then _ else _) = _
          rw [if_pos he, hx]
        have HWS := Lib.hid hws
        rw [hx] at hgg
        clear hws hx he
        have HGG := Lib.hid hgg
        clear hgg
        go_wp2_with ((with_reducible refine gate_builtin (b := .append) (xs := #[.tmp 32, .tmp 36]) rfl ?_); at_builtin; refine Kd.R_append_rows (Kd.int .i32) (Rr := (Kd.int .i32).K W) (w0 := W) w.heap.size rfl (.tmp 32) (.tmp 36) 40 21 (.int .i32 0) 4 rfl Try.underlying40 info21 rfl (by decide) (by omega) v (wrd i s3).1 [x] (some ⟨gg, 0, none⟩) 1 1 (fun _ => True) (fun _ => False) rfl rfl HCS.out.rv (C_one HGG.out) (fun _ _ h => h) (fun _ hk => hk.elim) (fun _ _ => trivial) (Below.refl _ _) HCS.out.gr.size (by omega) ?_; intro v1 w3 ho3 hb3 hg3 hat3; obtain ⟨A1, n1, c1, rfl⟩ := R_slc ho3; have HS3 := Lib.hid (HCS.out.setv hgw hb ho3 hb3 hg3); have hk3 := (hg3.block _ (blk_lt HCS.out.blk) (Kd.R_ne HCS.out.rv HCS.out.blk (by decide))).trans HCS.out.blk; have c3 : w3.cell? ⟨w.heap.size, 1, none⟩ = some v := (blk_cell hk3 1).trans rfl; have f3 := blk_frozen hk3 1; clear ho3 hb3 hg3 hat3 hk3)
        exact ⟨loop_frame (by kernel_rfl), ⟨i + 1, by show Value.int .i64 _ = _; simp, by omega, _, by rw [HWS.out]; exact HS3.out⟩, Msr.lt (by omega)⟩
end Go.Proofs.Ytieoklpgnmbpjaa.Gr
