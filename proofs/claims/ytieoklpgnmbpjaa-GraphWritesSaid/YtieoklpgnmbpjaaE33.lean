/- The document's Write, the walk. -/
import Derived.Test.YtieoklpgnmbpjaaE32
namespace Go.Proofs.Ytieoklpgnmbpjaa.Gr
open Go.RowKit Dr
open Go.Proofs.YtieoklpgnmbpjaaW.PrintWords (Kd Kd.C Kd.R Kd.M_step Kd.C_below Kd.C_get Kd.R_below Kd.R_reads Kd.R_reads' Kd.R_types Kd.R_step Kd.R_alloc Kd.R_drew Kd.R_lower add_field Kd.R_append Kd.R_bound Kd.R_move Kd.R_mono Kd.R_nil Kd.R_set Kd.R_ne Kd.R_over' Kd.R_typed Kd.C_nil Kd.R_slice Kd.R_append_rows Kd.R_form ReadsRow Kd.C_string)
set_option linter.unusedVariables false
set_option linter.unusedSimpArgs false
set_option maxRecDepth 100000
theorem and_perm {p q ok oj : Bool} (h : (p && ok) = oj) : ((p && q) && ok) = (oj && q) := by
  subst h
  cases p <;> cases q <;> cases ok <;> rfl
set_option maxHeartbeats 64000000 in
theorem rwrite_is (a b c o : Int) (AU AV : Option Addr) (cU cV : Nat) (cs : List (List Int × List Int)) (ns : List (List Int)) (w : World) (hC : kCo.C w AU cs.length cs) (hN : kNd.C w AV ns.length ns) (hs : smallC cs) (H32 : ∀ x ∈ cs, ∀ z ∈ x.2, -2147483648 ≤ z ∧ z ≤ 2147483647) (HM : ∀ x ∈ ns, (-2147483648 ≤ x.getD 14 0 ∧ x.getD 14 0 ≤ 2147483647) ∧ (-2147483648 ≤ x.getD 15 0 ∧ x.getD 15 0 ≤ 2147483647)) :
    Calls Try.prog 8 #[.agg #[.int .i64 a, .int .i64 b, .int .i64 c, .slice AU cs.length cU, .slice AV ns.length cV, .int .i64 o]] w fun e w' => ∃ v, e = .returned (.tuple #[v, .int .i64 (gw a b c o cs ns).2]) ∧ Kd.R (Kd.int .u8) 5 w' w.heap.size (fun _ => True) v (gw a b c o cs ns).1 ∧ Below w.heap.size w w' := by
  have hbx := blk_new w (.cells #[.int .i64 a, .int .i64 b, .int .i64 c, .slice AU cs.length cU, .slice AV ns.length cV, .int .i64 o] 26)
  have hB := below_alloc (Below.refl w.heap.size w) (.cells #[.int .i64 a, .int .i64 b, .int .i64 c, .slice AU cs.length cU, .slice AV ns.length cV, .int .i64 o] 26)
  have HC := Lib.hid hC
  have HN := Lib.hid hN
  have HSM := Lib.hid hs
  have H32' := Lib.hid H32
  have HM' := Lib.hid HM
  clear hC hN hs H32 HM
  go_enter Try.func8, Try.ntmps8
  apply wp_seq_k; intro K1 hK1; have HK1 := Lib.hid hK1; clear hK1
  go_wp2
  refine HK1.out _ _ ?_; clear HK1
  generalize w.alloc (.cells #[.int .i64 a, .int .i64 b, .int .i64 c, .slice AU cs.length cU, .slice AV ns.length cV, .int .i64 o] 26) = W1 at *
  have HB := Lib.hid hB
  have HX := Lib.hid hbx
  have hsz1 := hB.size
  clear hB hbx
  have p3 := (blk_cell HX.out 3).trans (show _ = some (Value.slice AU cs.length cU) from rfl)
  have p4 := (blk_cell HX.out 4).trans (show _ = some (Value.slice AV ns.length cV) from rfl)
  by_cases h1 : 80 < cs.length
  · have d1 : decide ((80 : Int) < (cs.length : Int)) = true := decide_eq_true (by omega)
    rw [gw_many (.inl h1)]
    go_wp2
    go_ret2
    exact ⟨_, rfl, Kd.R_lower (R_fresh (k := .u8) (xs := []) (blk_new W1 (.cells #[] 5)) (Nat.le_refl _) (by decide)) HB.out.size, below_alloc HB.out _⟩
  · have d1 : decide ((80 : Int) < (cs.length : Int)) = false := decide_eq_false (by omega)
    by_cases h2 : 40 < ns.length
    · have d2 : decide ((40 : Int) < (ns.length : Int)) = true := decide_eq_true (by omega)
      rw [gw_many (.inr h2)]
      go_wp2
      go_ret2
      exact ⟨_, rfl, Kd.R_lower (R_fresh (k := .u8) (xs := []) (blk_new W1 (.cells #[] 5)) (Nat.le_refl _) (by decide)) HB.out.size, below_alloc HB.out _⟩
    · have d2 : decide ((40 : Int) < (ns.length : Int)) = false := decide_eq_false (by omega)
      apply wp_seq_k; intro K1 hK1; have HK1 := Lib.hid hK1; clear hK1
      go_wp2
      refine HK1.out _ _ ?_; clear HK1
      clear d1 d2
      have p0 := (blk_cell HX.out 0).trans (show _ = some (Value.int .i64 a) from rfl)
      have p1 := (blk_cell HX.out 1).trans (show _ = some (Value.int .i64 b) from rfl)
      have p2 := (blk_cell HX.out 2).trans (show _ = some (Value.int .i64 c) from rfl)
      have p5 := (blk_cell HX.out 5).trans (show _ = some (Value.int .i64 o) from rfl)
      apply wp_seq_k; intro K1 hK1; have HK1 := Lib.hid hK1; clear hK1
      go_wp2
      refine HK1.out _ _ ?_; clear HK1
      clear p0 p1 p2 p3 p4 p5
      have hL : Kd.C (Kd.int .i64) (W1.alloc (.cells #[.int .i64 a, .int .i64 b, .int .i64 c, .int .i64 (cs.length : Int), .int .i64 (ns.length : Int), .int .i64 o] 3)) (some ⟨W1.heap.size, 0, none⟩) 6 [a, b, c, (cs.length : Int), (ns.length : Int), o] := C_mk (xs := [a, b, c, (cs.length : Int), (ns.length : Int), o]) (blk_new W1 (.cells #[.int .i64 a, .int .i64 b, .int .i64 c, .int .i64 (cs.length : Int), .int .i64 (ns.length : Int), .int .i64 o] 3)) (by simp)
      have hW2 : Wr W1.heap.size W1 (W1.alloc (.cells #[.int .i64 a, .int .i64 b, .int .i64 c, .int .i64 (cs.length : Int), .int .i64 (ns.length : Int), .int .i64 o] 3)) := Wr.of_below (below_alloc (Below.refl _ _) _) (Nat.le_refl _)
      have hs2 : W1.heap.size ≤ (W1.alloc (.cells #[.int .i64 a, .int .i64 b, .int .i64 c, .int .i64 (cs.length : Int), .int .i64 (ns.length : Int), .int .i64 o] 3)).heap.size := hW2.bel.size
      obtain ⟨L, hLL⟩ : ∃ L, [a, b, c, (cs.length : Int), (ns.length : Int), o].flatMap w32 = L := ⟨_, rfl⟩
      obtain ⟨ok, hok⟩ : ∃ ok, [a, b, c, (cs.length : Int), (ns.length : Int), o].all in32 = ok := ⟨_, rfl⟩
      have hll : L.length = 24 := by rw [← hLL, flat_len]; rfl
      change Code.wp _ _ _ _ (W1.alloc (.cells #[.int .i64 a, .int .i64 b, .int .i64 c, .int .i64 (cs.length : Int), .int .i64 (ns.length : Int), .int .i64 o] 3))
      generalize W1.alloc (.cells #[.int .i64 a, .int .i64 b, .int .i64 c, .int .i64 (cs.length : Int), .int .i64 (ns.length : Int), .int .i64 o] 3) = W2 at *
      have HL := Lib.hid hL
      have HW2 := Lib.hid hW2
      have HLL := Lib.hid hLL
      have HOK := Lib.hid hok
      have HLEN := Lib.hid hll
      clear hL hW2 hLL hok hll
      apply wp_seq_k; intro K1 hK1; have HK1 := Lib.hid hK1; clear hK1
      go_wp2_with (go_at_call 16; refine (put_rr (some ⟨W1.heap.size, 0, none⟩) 6 6 [a, b, c, (cs.length : Int), (ns.length : Int), o] L ok W2 rfl HLL.out HOK.out (by decide) HL.out).mono ?_; rintro e W3 ⟨A3, c3, rfl, hR3, hB3⟩)
      refine HK1.out _ _ ?_; clear HK1
      have hR4 : Kd.R (Kd.int .u8) 5 (W3.alloc (.cells #[.int .u8 78, .int .u8 78, .int .u8 84, .int .u8 49] 5)) W1.heap.size (fun _ => True) (.slice (some ⟨W3.heap.size, 0, none⟩) 4 4) MG := R_fresh (k := .u8) (xs := MG) (blk_new W3 (.cells #[.int .u8 78, .int .u8 78, .int .u8 84, .int .u8 49] 5)) (Nat.le_trans hs2 hB3.size) (by decide)
      have hW4 : Wr W1.heap.size W1 (W3.alloc (.cells #[.int .u8 78, .int .u8 78, .int .u8 84, .int .u8 49] 5)) := HW2.out.trans (Wr.of_below (below_alloc hB3 _) hs2)
      have hC4 := Kd.C_below (Kd.R_reads' hR3).2.2 (below_alloc (Below.refl _ _) (.cells #[.int .u8 78, .int .u8 78, .int .u8 84, .int .u8 49] 5))
      have HC4 := Lib.hid hC4
      have HR4 := Lib.hid (show RW W1 (W3.alloc (.cells #[.int .u8 78, .int .u8 78, .int .u8 84, .int .u8 49] 5)) (.slice (some ⟨W3.heap.size, 0, none⟩) 4 4) MG from ⟨hW4, hR4⟩)
      clear hR4 hW4 hC4 hR3 hB3 HL HW2
      apply wp_seq_k; intro K1 hK1; have HK1 := Lib.hid hK1; clear hK1
      go_wp2_with ((with_reducible refine gate_builtin (b := .append) (xs := #[.tmp 49, .tmp 50]) rfl ?_); at_builtin; refine Kd.R_append_rows (Kd.int .u8) (Rr := (Kd.int .u8).K (W3.alloc (.cells #[.int .u8 78, .int .u8 78, .int .u8 84, .int .u8 49] 5))) (w0 := W3.alloc (.cells #[.int .u8 78, .int .u8 78, .int .u8 84, .int .u8 49] 5)) W1.heap.size rfl (.tmp 49) (.tmp 50) 28 5 (.int .u8 0) 1 rfl Try.underlying28 info5 rfl (by decide) (by omega) (.slice (some ⟨W3.heap.size, 0, none⟩) 4 4) (MG) (L) (A3) (L.length) (c3) (fun _ => True) (fun _ => False) rfl rfl (HR4.out).2 (HC4.out) (fun _ _ h => h) (fun _ hk => hk.elim) (fun _ _ => trivial) (Below.refl _ _) (HR4.out).1.bel.size (by rw [HLEN.out]; decide) ?_; intro v5 W5 ho hb hg hat; have HRW5 := Lib.hid (RW.app (HR4.out) ho hb hg); clear ho hb hg hat)
      refine HK1.out _ _ ?_; clear HK1
      have hX5 := Lib.hid (HRW5.out.1.oth _ _ _ HX.out (by decide) (by decide))
      obtain ⟨bs5, hb5⟩ : ∃ bs5, MG ++ L = bs5 := ⟨_, rfl⟩
      rw [hb5] at HRW5
      have hl5 : bs5.length = 28 := by rw [← hb5, List.length_append, HLEN.out]; rfl
      have HB5 := Lib.hid hb5
      clear hb5 HC4 HR4 hs2
      apply wp_seq_k; intro K1 hK1; have HK1 := Lib.hid hK1; clear hK1
      go_wp2
      refine HK1.out _ _ ?_; clear HK1
      apply wp_seq_k; intro K1 hK1; have HK1 := Lib.hid hK1; clear hK1
      go_wp2
      refine wp_loopS [5, 7, 8, 9, 10, 11, 52, 53, 54, 55, 56, 57, 58, 59, 60, 61, 62, 63, 64, 65, 66, 67, 68, 69, 70, 71, 72, 73, 74, 75, 76, 77, 78, 79, 80, 81, 82, 83, 84, 85, 86, 87, 88, 89, 90, 91, 92, 93, 94, 95, 96, 97, 98, 99, 100, 101, 102, 103, 104, 105, 106, 107, 108, 109, 110, 111, 112, 113, 114, 115, 116, 117, 118, 119, 120, 121, 122, 123, 124, 125, 126, 127, 128, 129, 130, 131, 132, 133] (fun sl W => ∃ i : Nat, sl 8 = .int .i64 (i : Int) ∧ i ≤ cs.length ∧ ∃ u, sl 5 = u ∧ sl 7 = .bool ((cs.take i).any bothC) ∧ RW W1 W u (bs5 ++ (cs.take i).flatMap cb)) (fun sl W => Msr (cs.length : Int) (sl 8)) ⟨0, rfl, Nat.zero_le _, _, rfl, rfl, (show RW W1 W5 v5 (bs5 ++ []) from by rw [List.append_nil]; exact HRW5.out)⟩ ?_
      intro vs6 W6 a6 hb6' hI
      obtain ⟨i, hsl, hi, u, hv0, hv1, hS⟩ := hI
      simp only [setSlots, Act.put, List.setIfInBounds_toArray, List.set_cons_succ, List.set_cons_zero] at hb6'
      subst hb6'
      replace hsl : vs6 8 = .int .i64 (i : Int) := hsl
      replace hv0 : vs6 5 = u := hv0
      replace hv1 : vs6 7 = .bool ((cs.take i).any bothC) := hv1
      rw [hsl, hv0, hv1]
      clear hsl hv0 hv1
      have HS := Lib.hid hS
      clear hS
      by_cases hil : i < cs.length
      rotate_left
      clear HRW5 hX5
      rotate_left
      · have hd : decide ((i : Int) < (cs.length : Int)) = true := decide_eq_true (by omega)
        have hinc : IntKind.i64.wrap ((i : Int) + 1) = (i : Int) + 1 := IntWalk.i64_in _ (by omega)
        obtain ⟨x, hx⟩ : ∃ x, cs[i]? = some x := ⟨_, List.getElem?_eq_getElem hil⟩
        obtain ⟨ad, A1, c1, A2, c2, hAd, hcell, -, -, hA1, hA2⟩ := co_get HC.out hx
        subst hAd
        have hBw := below_step HB.out HS.out.1.bel
        have hcell6 := cells_below hcell hBw
        have hX6 := HS.out.1.oth _ _ _ HX.out (by decide) (by decide)
        have hsm := HSM.out x (List.mem_of_getElem? hx)
        have hx32 := H32'.out x (List.mem_of_getElem? hx)
        have hbd : ((cs.take i).flatMap cb).length ≤ 35840 := by
          have g1 := flat_le (f := cb) (m := 448) (l := cs.take i) (fun y hy => by
            rw [cb_len]
            have := HSM.out y (List.mem_of_mem_take hy)
            omega)
          have g2 : (cs.take i).length ≤ 80 := by rw [List.length_take]; omega
          exact Nat.le_trans g1 (Nat.mul_le_mul_right 448 g2)
        obtain ⟨bs6, hb6⟩ : ∃ bs6, bs5 ++ (cs.take i).flatMap cb = bs6 := ⟨_, rfl⟩
        have hl6 : bs6.length ≤ 35868 := by rw [← hb6, List.length_append]; omega
        rw [hb6] at HS
        have HB6 := Lib.hid hb6
        have HCE := Lib.hid hcell6
        have HA1 := Lib.hid hA1
        have HA2 := Lib.hid hA2
        have HX6 := Lib.hid hX6
        have HHX := Lib.hid hx
        have HX32 := Lib.hid hx32
        have c3 := (blk_cell hX6 3).trans (show _ = some (Value.slice (some ad) cs.length cU) from rfl)
        clear hcell hcell6 hA1 hA2 hBw hX6 hbd hb6 hx hx32
        apply wp_seq_k; intro K2 hK2; have HK2 := Lib.hid hK2; clear hK2
        go_wp2
        clear c3
        refine HK2.out _ _ ?_; clear HK2
        apply wp_seq_k; intro K8 hK8; have HK8 := Lib.hid hK8; clear hK8
        apply wp_block
        apply wp_seq_k; intro K3 hK3; have HK3 := Lib.hid hK3; clear hK3
        refine wp_listed (R := fun W W' => Below W.heap.size W W') 6 [.val (.pointer (some ⟨w.heap.size, 3, none⟩)), .val (.slice (some ad) cs.length cU), .val (.int .i64 (i : Int)), .val (.pointer (some (ad.add (i * 2)))), .val (.agg #[.slice A1 x.1.length c1, .slice A2 x.2.length c2]), newSpec (.cells #[.slice none 0 0, .slice none 0 0] 42 (0, 0)) W6.heap.size] (fun W => Below W6.heap.size W6 W) (by kernel_rfl) (Below.refl _ _) ?_ ?_
        · intro vs W hG a1 ha1
          have e1 : a1.eval (.tmp 1) = .pointer (some ⟨w.heap.size, 0, none⟩) := eo ha1 (by kernel_rfl)
          have e8 : a1.eval (.tmp 8) = .int .i64 (i : Int) := eo ha1 (by kernel_rfl)
          have i59 := ei (d := 59) ha1 0 (by kernel_rfl) rfl rfl (by simp)
          have i60 := ei (d := 60) ha1 1 (by kernel_rfl) rfl rfl (by simp)
          have i61 := ei (d := 61) ha1 2 (by kernel_rfl) rfl rfl (by simp)
          have i62 := ei (d := 62) ha1 3 (by kernel_rfl) rfl rfl (by simp)
          clear ha1
          refine And.intro ?_ (And.intro ?_ (And.intro ?_ (And.intro ?_ (And.intro ?_ (And.intro ?_ (trivial))))))
          · intro hp K hK
            refine g_no rfl ?_
            exact st_field rfl (e1) (by kernel_rfl) (hK _ _ rfl hG (Below.refl _ _))
          · intro hp K hK
            refine g_no rfl ?_
            have e59 : a1.eval (.tmp 59) = _ := i59.trans (hp 0 (by kernel_rfl))
            exact st_load rfl (e59) (ld_cell 23 (by kernel_rfl) ((blk_cell (blk_below HX6.out hG) 3).trans rfl)) (hK _ _ rfl hG (Below.refl _ _))
          · intro hp K hK
            refine g_no rfl ?_
            exact st_move (.inl rfl) (e8) (hK _ _ rfl hG (Below.refl _ _))
          · intro hp K hK
            refine g_no rfl ?_
            have e60 : a1.eval (.tmp 60) = _ := i60.trans (hp 1 (by kernel_rfl))
            have e61 : a1.eval (.tmp 61) = _ := i61.trans (hp 2 (by kernel_rfl))
            exact st_index rfl (e60) (e61) (ix23 ad cs.length cU i hil _) (hK _ _ rfl hG (Below.refl _ _))
          · intro hp K hK
            refine g_no rfl ?_
            have e62 : a1.eval (.tmp 62) = _ := i62.trans (hp 3 (by kernel_rfl))
            exact st_load rfl (e62) (ld42 HCE.out hG) (hK _ _ rfl hG (Below.refl _ _))
          · intro hp K hK
            refine g_no rfl ?_
            exact st_alloc rfl (by kernel_rfl) (hK _ _ ⟨_, rfl, blk_new _ _, hG.size⟩ (hG.alloc hG.size _) (below_alloc (Below.refl _ _) _))
        intro vs W hG hp a1 ha1
        have q4 : vs 4 = _ := hp 4 (by decide)
        have q5 : ∃ gg, (vs 5) = .pointer (some ⟨gg, 0, none⟩) ∧ W.heap[gg]? = some (.cells #[.slice none 0 0, .slice none 0 0] 42 (0, 0)) ∧ W6.heap.size ≤ gg := hp 5 (by decide)
        clear hp
        simp only [fill, Act.put, List.append_eq, List.cons_append, List.nil_append, List.take_succ_cons, List.take_zero, List.setIfInBounds_toArray, List.set_cons_succ, List.set_cons_zero, Nat.reduceAdd, Nat.zero_add, q4] at ha1
        subst ha1
        simp only [List.append_eq, List.cons_append, List.nil_append, List.drop_succ_cons, List.drop_zero]
        clear q4
        obtain ⟨gy, hv, Agy, hgy⟩ := q5
        rw [hv]
        clear hv
        refine wpList_store_mid rfl 42 (.tmp 9) (.tmp 63) rfl gy 0 #[.slice A1 x.1.length c1, .slice A2 x.2.length c2] (by kernel_rfl) (by kernel_rfl) (by have h := blk_there Agy; exact h) (by kernel_rfl) (by kernel_rfl) ?_
        have hX1 := blk_puts (cs' := #[.slice A1 x.1.length c1, .slice A2 x.2.length c2]) Agy rfl
        have hBV : Below W6.heap.size W6 (W.setCells gy 0 #[.slice A1 x.1.length c1, .slice A2 x.2.length c2].toList) := below_setsL _ 0 0 hG hgy
        clear Agy hG
        generalize W.setCells gy 0 #[.slice A1 x.1.length c1, .slice A2 x.2.length c2].toList = V at hX1 hBV ⊢
        clear W
        have hX := Lib.hid hX1
        have HBV := Lib.hid hBV
        clear hX1 hBV
        refine wpList_nil ?_
        simp only [Act.put]
        refine HK3.out _ _ ?_; clear HK3
        have HV := Lib.hid (HS.out.below HBV.out)
        clear HS HBV HCE HX6 hgy
        have q0 := (blk_cell hX.out 0).trans (show _ = some (Value.slice A1 x.1.length c1) from rfl)
        have q1 := (blk_cell hX.out 1).trans (show _ = some (Value.slice A2 x.2.length c2) from rfl)
        have d1 : decide ((65536 : Int) < (x.1.length : Int)) = false := decide_eq_false (by omega)
        have d2 : decide ((65536 : Int) < (x.2.length : Int)) = false := decide_eq_false (by omega)
        apply wp_seq_k; intro K3 hK3; have HK3 := Lib.hid hK3; clear hK3
        go_wp2
        refine HK3.out _ _ ?_; clear HK3
        clear d1 d2
        generalize hbo : (cs.take i).any bothC = bo
        have HBO := Lib.hid hbo
        clear hbo
        refine wp_seqS [7, 75, 76, 77, 78, 79, 80, 81, 82, 83, 84, 85, 86, 87] (fun sl W => sl 7 = .bool (bo || bothC x) ∧ W = V) ?_ ?_
        · rw [bothC_is]
          cases bo
          · by_cases l1 : 0 < x.1.length
            · have e1 : decide ((0 : Int) < (x.1.length : Int)) = true := decide_eq_true (by omega)
              by_cases l2 : 0 < x.2.length
              · have e2 : decide ((0 : Int) < (x.2.length : Int)) = true := decide_eq_true (by omega)
                rw [e1, e2]
                go_wp2
                refine ⟨loop_frame (by kernel_rfl), ?_⟩; first | exact ⟨rfl, rfl⟩ | exact ⟨rfl, trivial⟩ | rfl
              · have e2 : decide ((0 : Int) < (x.2.length : Int)) = false := decide_eq_false (by omega)
                rw [e1, e2]
                go_wp2
                refine ⟨loop_frame (by kernel_rfl), ?_⟩; first | exact ⟨rfl, rfl⟩ | exact ⟨rfl, trivial⟩ | rfl
            · have e1 : decide ((0 : Int) < (x.1.length : Int)) = false := decide_eq_false (by omega)
              rw [e1]
              go_wp2
              refine ⟨loop_frame (by kernel_rfl), ?_⟩; first | exact ⟨rfl, rfl⟩ | exact ⟨rfl, trivial⟩ | rfl
          · go_wp2
            refine ⟨loop_frame (by kernel_rfl), ?_⟩; first | exact ⟨rfl, rfl⟩ | exact ⟨rfl, trivial⟩ | rfl
        intro vs7 W7 a7 hb7' hI
        simp only [setSlots, Act.put, List.setIfInBounds_toArray, List.set_cons_succ, List.set_cons_zero] at hb7'
        subst hb7'
        obtain ⟨hv0, hW7⟩ := hI
        replace hv0 : vs7 7 = .bool (bo || bothC x) := hv0
        rw [hv0, hW7]
        clear hv0 hW7 W7
        clear q0 q1
        obtain ⟨bn, hbn⟩ : ∃ bn, (bo || bothC x) = bn := ⟨_, rfl⟩
        rw [hbn]
        have HBN := Lib.hid hbn
        clear hbn
        apply wp_seq_k; intro K3 hK3; have HK3 := Lib.hid hK3; clear hK3
        have HYB := hX
        refine wp_listed (R := fun W W' => Below W.heap.size W W') 6 [.val (u), .val (.pointer (some ⟨gy, 0, none⟩)), .val (.slice A1 x.1.length c1), .val (.int .i64 (x.1.length : Int)), .val (.int .u32 ((x.1.length : Int) % 4294967296)), newB ((w32 (x.1.length : Int)).map (Value.int .u8)).toArray 5 4] (fun W => Below V.heap.size V W) (by kernel_rfl) (Below.refl _ _) ?_ ?_
        · intro vs W hG a1 ha1
          have e5 : a1.eval (.tmp 5) = u := eo ha1 (by kernel_rfl)
          have e9 : a1.eval (.tmp 9) = .pointer (some ⟨gy, 0, none⟩) := eo ha1 (by kernel_rfl)
          have i89 := ei (d := 89) ha1 1 (by kernel_rfl) rfl rfl (by simp)
          have i90 := ei (d := 90) ha1 2 (by kernel_rfl) rfl rfl (by simp)
          have i91 := ei (d := 91) ha1 3 (by kernel_rfl) rfl rfl (by simp)
          have i92 := ei (d := 92) ha1 4 (by kernel_rfl) rfl rfl (by simp)
          clear ha1
          refine And.intro ?_ (And.intro ?_ (And.intro ?_ (And.intro ?_ (And.intro ?_ (And.intro ?_ (trivial))))))
          · intro hp K hK
            refine g_no rfl ?_
            exact st_move (.inl rfl) (e5) (hK _ _ rfl hG (Below.refl _ _))
          · intro hp K hK
            refine g_no rfl ?_
            exact st_field rfl (e9) (by kernel_rfl) (hK _ _ rfl hG (Below.refl _ _))
          · intro hp K hK
            refine g_no rfl ?_
            have e89 : a1.eval (.tmp 89) = _ := i89.trans (hp 1 (by kernel_rfl))
            exact st_load rfl (e89) (ld_cell 39 (by kernel_rfl) ((blk_cell (blk_below HYB.out hG) 0).trans rfl)) (hK _ _ rfl hG (Below.refl _ _))
          · intro hp K hK
            refine g_no rfl ?_
            have e90 : a1.eval (.tmp 90) = _ := i90.trans (hp 2 (by kernel_rfl))
            exact st_builtin rfl (by first | (simp only [List.map_toArray, List.map_cons, List.map_nil, eval_const, e90]; done) | (simp only [List.map_toArray, List.map_cons, List.map_nil, eval_const, e90]; rfl)) (fun _ => by kernel_rfl) (hK _ _ rfl hG (Below.refl _ _))
          · intro hp K hK
            refine g_no rfl ?_
            have e91 : a1.eval (.tmp 91) = _ := i91.trans (hp 3 (by kernel_rfl))
            exact st_conv rfl (e91) (cv360 _ _) (hK _ _ rfl hG (Below.refl _ _))
          · intro hp K hK
            refine g_no rfl ?_
            have e92 : a1.eval (.tmp 92) = _ := i92.trans (hp 4 (by kernel_rfl))
            refine st_call rfl (by first | (simp only [List.map_toArray, List.map_cons, List.map_nil, eval_const, e92]; done) | (simp only [List.map_toArray, List.map_cons, List.map_nil, eval_const, e92]; rfl)) (by kernel_rfl) ?_
            refine (word_is (x.1.length : Int) _).mono ?_
            rintro e w' ⟨gg, rfl, hgg, hb'⟩
            exact ⟨_, rfl, hK _ _ ⟨_, rfl, hgg⟩ (below_step hG hb') hb'⟩
        intro vs W hG hp a1 ha1
        have q0 : vs 0 = _ := hp 0 (by decide)
        have q5 : ∃ gg, (vs 5) = .slice (some ⟨gg, 0, none⟩) 4 4 ∧ W.heap[gg]? = some (.cells ((w32 (x.1.length : Int)).map (Value.int .u8)).toArray 5 (0, 0)) := hp 5 (by decide)
        clear hp
        simp only [fill, Act.put, List.append_eq, List.cons_append, List.nil_append, List.take_succ_cons, List.take_zero, List.setIfInBounds_toArray, List.set_cons_succ, List.set_cons_zero, Nat.reduceAdd, Nat.zero_add, q0] at ha1
        subst ha1
        simp only [List.append_eq, List.cons_append, List.nil_append, List.drop_succ_cons, List.drop_zero]
        clear q0
        obtain ⟨gg, hv, hgg⟩ := q5
        rw [hv]
        clear hv
        have HGG := Lib.hid hgg
        have HRG := Lib.hid (HV.out.below hG)
        have HYG := Lib.hid (blk_below HYB.out hG)
        clear hgg hG HYB
        go_wp2_with ((with_reducible refine gate_builtin (b := .append) (xs := #[.tmp 88, .tmp 93]) rfl ?_); at_builtin; refine Kd.R_append_rows (Kd.int .u8) (Rr := (Kd.int .u8).K (W)) (w0 := W) W1.heap.size rfl (.tmp 88) (.tmp 93) 28 5 (.int .u8 0) 1 rfl Try.underlying28 info5 rfl (by decide) (by omega) (u) (bs6) (w32 (x.1.length : Int)) (some ⟨gg, 0, none⟩) (4) (4) (fun _ => True) (fun _ => False) rfl rfl (HRG.out).2 (C_mk (xs := w32 (x.1.length : Int)) HGG.out (by rw [w32_len]; decide)) (fun _ _ h => h) (fun _ hk => hk.elim) (fun _ _ => trivial) (Below.refl _ _) (HRG.out).1.bel.size (by omega) ?_; intro v7 W7 ho hb hg hat; have HRW7 := Lib.hid (RW.app (HRG.out) ho hb hg); have HYW7 := Lib.hid ((hg.block _ (blk_lt HYG.out) (Kd.R_ne HRG.out.2 HYG.out (by decide))).trans HYG.out); clear ho hb hg hat)
        refine HK3.out _ _ ?_; clear HK3
        clear HRG HGG HYG HV hX
        have q0 := (blk_cell HYW7.out 0).trans (show _ = some (Value.slice A1 x.1.length c1) from rfl)
        obtain ⟨bs7, hb7⟩ : ∃ bs7, bs6 ++ w32 (x.1.length : Int) = bs7 := ⟨_, rfl⟩
        have hl7 : bs7.length ≤ 35872 := by rw [← hb7, List.length_append, w32_len]; omega
        rw [hb7] at HRW7
        have HB7 := Lib.hid hb7
        clear hb7
        apply wp_seq_k; intro K3 hK3; have HK3 := Lib.hid hK3; clear hK3
        go_wp2
        clear q0
        refine wp_loopS [5, 10, 95, 96, 97, 98, 99, 100, 101, 102, 103, 104, 105, 106, 107, 108, 109, 110] (fun sl W => ∃ j : Nat, sl 10 = .int .i64 (j : Int) ∧ j ≤ x.1.length ∧ ∃ u8, sl 5 = u8 ∧ (RW W1 W u8 (bs7 ++ (x.1.take j).map (· % 256)) ∧ W.heap[gy]? = some (.cells #[.slice A1 x.1.length c1, .slice A2 x.2.length c2] 42 (0, 0)))) (fun sl W => Msr (x.1.length : Int) (sl 10)) ⟨0, rfl, Nat.zero_le _, _, rfl, ⟨(show RW W1 W7 v7 (bs7 ++ []) from by rw [List.append_nil]; exact HRW7.out), HYW7.out⟩⟩ ?_
        intro vs8 W8 a8 hb8' hI
        obtain ⟨j, hsl, hi, u8, hv0, hS⟩ := hI
        simp only [setSlots, Act.put, List.setIfInBounds_toArray, List.set_cons_succ, List.set_cons_zero] at hb8'
        subst hb8'
        replace hsl : vs8 10 = .int .i64 (j : Int) := hsl
        replace hv0 : vs8 5 = u8 := hv0
        rw [hsl, hv0]
        clear hsl hv0
        have HS := Lib.hid hS
        clear hS
        by_cases hil : j < x.1.length
        rotate_left
        rotate_left
        · have hd : decide ((j : Int) < (x.1.length : Int)) = true := decide_eq_true (by omega)
          have hinc2 : IntKind.i64.wrap ((j : Int) + 1) = (j : Int) + 1 := IntWalk.i64_in _ (by omega)
          obtain ⟨z, hz⟩ : ∃ z, x.1[j]? = some z := ⟨_, List.getElem?_eq_getElem hil⟩
          have hCA := Kd.C_below HA1.out (below_step HB.out HS.out.1.1.bel)
          obtain ⟨ea, hEa, -⟩ := hCA.2.2 (by omega)
          subst hEa
          have hcell : W8.cell? (ea.add j) = some (.int .i8 z) := C_cell hCA hz
          have hix : ∀ W, (Instr.indexAt 39 (.slice (some ea) x.1.length c1) (.int .i64 (j : Int))).run Try.prog W = .ok (.pointer (some (ea.add j))) W := fun W => ixn39 ea x.1.length c1 j hil W
          have hcv : ∀ W, (convert 61 5 (.int .i8 z)).run Try.prog W = .ok (.int .u8 (z % 256)) W := fun W => by rw [show (convert 61 5 (.int .i8 z)).run Try.prog W = .ok (.int .u8 (IntKind.u8.wrap z)) W by kernel_rfl, IntKind.wrap_u8]
          have r := (blk_cell HS.out.2 0).trans (show _ = some (Value.slice (some ea) x.1.length c1) from rfl)
          have HZ := Lib.hid hz
          have HSB := Lib.hid (HS.out.1.below (below_alloc (Below.refl _ _) (.cells (([z % 256]).map (Value.int .u8)).toArray 5)))
          have HYB := Lib.hid (blk_alloc HS.out.2 (.cells (([z % 256]).map (Value.int .u8)).toArray 5))
          clear hCA hz
          go_wp2_with ((with_reducible refine gate_builtin (b := .append) (xs := #[.tmp 102, .tmp 109]) rfl ?_); at_builtin; refine Kd.R_append_rows (Kd.int .u8) (Rr := (Kd.int .u8).K (W8.alloc (.cells (([z % 256]).map (Value.int .u8)).toArray 5))) (w0 := W8.alloc (.cells (([z % 256]).map (Value.int .u8)).toArray 5)) W1.heap.size rfl (.tmp 102) (.tmp 109) 28 5 (.int .u8 0) 1 rfl Try.underlying28 info5 rfl (by decide) (by omega) (u8) (bs7 ++ (x.1.take j).map (· % 256)) ([z % 256]) (some ⟨W8.heap.size, 0, none⟩) (1) (1) (fun _ => True) (fun _ => False) rfl rfl (HSB.out).2 (C_mk (xs := [z % 256]) (blk_new _ _) (by simp)) (fun _ _ h => h) (fun _ hk => hk.elim) (fun _ _ => trivial) (Below.refl _ _) (HSB.out).1.bel.size (by rw [List.length_append, List.length_map, List.length_take]; omega) ?_; intro v9 W9 ho hb hg hat; have HRW9 := Lib.hid (RW.app (HSB.out) ho hb hg); have HYW9 := Lib.hid ((hg.block _ (blk_lt HYB.out) (Kd.R_ne HSB.out.2 HYB.out (by decide))).trans HYB.out); clear ho hb hg hat)
          exact ⟨loop_frame (by kernel_rfl), ⟨j + 1, by show Value.int .i64 _ = _; simp, by omega, _, rfl, by rw [map_snoc' HZ.out, ← List.append_assoc]; exact HRW9.out, HYW9.out⟩, Msr.lt (by omega)⟩
        · have hd : decide ((j : Int) < (x.1.length : Int)) = false := decide_eq_false (by omega)
          obtain rfl : j = x.1.length := by omega
          rw [List.take_length] at HS
          have r := (blk_cell HS.out.2 0).trans (show _ = some (Value.slice A1 x.1.length c1) from rfl)
          go_wp2
          clear r
          refine HK3.out _ _ ?_; clear HK3
          clear HRW7 HYW7 hil hd hi
          obtain ⟨bs8, hb8⟩ : ∃ bs8, bs7 ++ x.1.map (· % 256) = bs8 := ⟨_, rfl⟩
          have hl8 : bs8.length ≤ 36072 := by rw [← hb8, List.length_append, List.length_map]; omega
          rw [hb8] at HS
          have HB8 := Lib.hid hb8
          clear hb8
          have HV := Lib.hid HS.out.1
          have hX := Lib.hid HS.out.2
          clear HS
          apply wp_seq_k; intro K3 hK3; have HK3 := Lib.hid hK3; clear hK3
          have HYB := hX
          refine wp_listed (R := fun W W' => Below W.heap.size W W') 6 [.val (u8), .val (.pointer (some ⟨gy, 1, none⟩)), .val (.slice A2 x.2.length c2), .val (.int .i64 (x.2.length : Int)), .val (.int .u32 ((x.2.length : Int) % 4294967296)), newB ((w32 (x.2.length : Int)).map (Value.int .u8)).toArray 5 4] (fun W => Below W8.heap.size W8 W) (by kernel_rfl) (Below.refl _ _) ?_ ?_
          · intro vs W hG a1 ha1
            have e5 : a1.eval (.tmp 5) = u8 := eo ha1 (by kernel_rfl)
            have e9 : a1.eval (.tmp 9) = .pointer (some ⟨gy, 0, none⟩) := eo ha1 (by kernel_rfl)
            have i112 := ei (d := 112) ha1 1 (by kernel_rfl) rfl rfl (by simp)
            have i113 := ei (d := 113) ha1 2 (by kernel_rfl) rfl rfl (by simp)
            have i114 := ei (d := 114) ha1 3 (by kernel_rfl) rfl rfl (by simp)
            have i115 := ei (d := 115) ha1 4 (by kernel_rfl) rfl rfl (by simp)
            clear ha1
            refine And.intro ?_ (And.intro ?_ (And.intro ?_ (And.intro ?_ (And.intro ?_ (And.intro ?_ (trivial))))))
            · intro hp K hK
              refine g_no rfl ?_
              exact st_move (.inl rfl) (e5) (hK _ _ rfl hG (Below.refl _ _))
            · intro hp K hK
              refine g_no rfl ?_
              exact st_field rfl (e9) (by kernel_rfl) (hK _ _ rfl hG (Below.refl _ _))
            · intro hp K hK
              refine g_no rfl ?_
              have e112 : a1.eval (.tmp 112) = _ := i112.trans (hp 1 (by kernel_rfl))
              exact st_load rfl (e112) (ld_cell 40 (by kernel_rfl) ((blk_cell (blk_below HYB.out hG) 1).trans rfl)) (hK _ _ rfl hG (Below.refl _ _))
            · intro hp K hK
              refine g_no rfl ?_
              have e113 : a1.eval (.tmp 113) = _ := i113.trans (hp 2 (by kernel_rfl))
              exact st_builtin rfl (by first | (simp only [List.map_toArray, List.map_cons, List.map_nil, eval_const, e113]; done) | (simp only [List.map_toArray, List.map_cons, List.map_nil, eval_const, e113]; rfl)) (fun _ => by kernel_rfl) (hK _ _ rfl hG (Below.refl _ _))
            · intro hp K hK
              refine g_no rfl ?_
              have e114 : a1.eval (.tmp 114) = _ := i114.trans (hp 3 (by kernel_rfl))
              exact st_conv rfl (e114) (cv360 _ _) (hK _ _ rfl hG (Below.refl _ _))
            · intro hp K hK
              refine g_no rfl ?_
              have e115 : a1.eval (.tmp 115) = _ := i115.trans (hp 4 (by kernel_rfl))
              refine st_call rfl (by first | (simp only [List.map_toArray, List.map_cons, List.map_nil, eval_const, e115]; done) | (simp only [List.map_toArray, List.map_cons, List.map_nil, eval_const, e115]; rfl)) (by kernel_rfl) ?_
              refine (word_is (x.2.length : Int) _).mono ?_
              rintro e w' ⟨gg, rfl, hgg, hb'⟩
              exact ⟨_, rfl, hK _ _ ⟨_, rfl, hgg⟩ (below_step hG hb') hb'⟩
          intro vs W hG hp a1 ha1
          have q0 : vs 0 = _ := hp 0 (by decide)
          have q5 : ∃ gg, (vs 5) = .slice (some ⟨gg, 0, none⟩) 4 4 ∧ W.heap[gg]? = some (.cells ((w32 (x.2.length : Int)).map (Value.int .u8)).toArray 5 (0, 0)) := hp 5 (by decide)
          clear hp
          simp only [fill, Act.put, List.append_eq, List.cons_append, List.nil_append, List.take_succ_cons, List.take_zero, List.setIfInBounds_toArray, List.set_cons_succ, List.set_cons_zero, Nat.reduceAdd, Nat.zero_add, q0] at ha1
          subst ha1
          simp only [List.append_eq, List.cons_append, List.nil_append, List.drop_succ_cons, List.drop_zero]
          clear q0
          obtain ⟨gg, hv, hgg⟩ := q5
          rw [hv]
          clear hv
          have HGG := Lib.hid hgg
          have HRG := Lib.hid (HV.out.below hG)
          have HYG := Lib.hid (blk_below HYB.out hG)
          clear hgg hG HYB
          go_wp2_with ((with_reducible refine gate_builtin (b := .append) (xs := #[.tmp 111, .tmp 116]) rfl ?_); at_builtin; refine Kd.R_append_rows (Kd.int .u8) (Rr := (Kd.int .u8).K (W)) (w0 := W) W1.heap.size rfl (.tmp 111) (.tmp 116) 28 5 (.int .u8 0) 1 rfl Try.underlying28 info5 rfl (by decide) (by omega) (u8) (bs8) (w32 (x.2.length : Int)) (some ⟨gg, 0, none⟩) (4) (4) (fun _ => True) (fun _ => False) rfl rfl (HRG.out).2 (C_mk (xs := w32 (x.2.length : Int)) HGG.out (by rw [w32_len]; decide)) (fun _ _ h => h) (fun _ hk => hk.elim) (fun _ _ => trivial) (Below.refl _ _) (HRG.out).1.bel.size (by omega) ?_; intro v9 W9 ho hb hg hat; have HRW9 := Lib.hid (RW.app (HRG.out) ho hb hg); have HYW9 := Lib.hid ((hg.block _ (blk_lt HYG.out) (Kd.R_ne HRG.out.2 HYG.out (by decide))).trans HYG.out); clear ho hb hg hat)
          refine HK3.out _ _ ?_; clear HK3
          clear HRG HGG HYG HV hX
          have q0 := (blk_cell HYW9.out 1).trans (show _ = some (Value.slice A2 x.2.length c2) from rfl)
          obtain ⟨bs9, hb9⟩ : ∃ bs9, bs8 ++ w32 (x.2.length : Int) = bs9 := ⟨_, rfl⟩
          have hl9 : bs9.length ≤ 36076 := by rw [← hb9, List.length_append, w32_len]; omega
          rw [hb9] at HRW9
          have HB9 := Lib.hid hb9
          clear hb9
          go_wp2
          clear q0
          refine wp_loopS [5, 11, 118, 119, 120, 121, 122, 123, 124, 125, 126, 127, 128, 129, 130, 131, 132, 133] (fun sl W => ∃ j : Nat, sl 11 = .int .i64 (j : Int) ∧ j ≤ x.2.length ∧ ∃ u8, sl 5 = u8 ∧ (RW W1 W u8 (bs9 ++ (x.2.take j).flatMap w32) ∧ W.heap[gy]? = some (.cells #[.slice A1 x.1.length c1, .slice A2 x.2.length c2] 42 (0, 0)))) (fun sl W => Msr (x.2.length : Int) (sl 11)) ⟨0, rfl, Nat.zero_le _, _, rfl, ⟨(show RW W1 W9 v9 (bs9 ++ []) from by rw [List.append_nil]; exact HRW9.out), HYW9.out⟩⟩ ?_
          intro vs10 W10 a10 hb10' hI
          obtain ⟨j, hsl, hi, u8, hv0, hS⟩ := hI
          simp only [setSlots, Act.put, List.setIfInBounds_toArray, List.set_cons_succ, List.set_cons_zero] at hb10'
          subst hb10'
          replace hsl : vs10 11 = .int .i64 (j : Int) := hsl
          replace hv0 : vs10 5 = u8 := hv0
          rw [hsl, hv0]
          clear hsl hv0
          have HS := Lib.hid hS
          clear hS
          by_cases hil : j < x.2.length
          rotate_left
          rotate_left
          · have hd : decide ((j : Int) < (x.2.length : Int)) = true := decide_eq_true (by omega)
            have hinc2 : IntKind.i64.wrap ((j : Int) + 1) = (j : Int) + 1 := IntWalk.i64_in _ (by omega)
            obtain ⟨z, hz⟩ : ∃ z, x.2[j]? = some z := ⟨_, List.getElem?_eq_getElem hil⟩
            have hCA := Kd.C_below HA2.out (below_step HB.out HS.out.1.1.bel)
            obtain ⟨ea, hEa, -⟩ := hCA.2.2 (by omega)
            subst hEa
            have HCELL := Lib.hid (show W10.cell? (ea.add j) = some (.int .i32 z) from C_cell hCA hz)
            have hix : ∀ W, (Instr.indexAt 40 (.slice (some ea) x.2.length c2) (.int .i64 (j : Int))).run Try.prog W = .ok (.pointer (some (ea.add j))) W := fun W => ixn40 ea x.2.length c2 j hil W
            have q0 := (blk_cell HS.out.2 1).trans (show _ = some (Value.slice (some ea) x.2.length c2) from rfl)
            have HZ := Lib.hid hz
            have HYB := Lib.hid HS.out.2
            clear hCA hz
            apply wp_seq_k; intro K2 hK2; have HK2 := Lib.hid hK2; clear hK2
            go_wp2
            refine HK2.out _ _ ?_; clear HK2
            clear q0
            apply wp_seq_k; intro K5 hK5; have HK5 := Lib.hid hK5; clear hK5
            apply wp_block
            refine wp_listed (R := fun W W' => Below W.heap.size W W') 8 [.val (u8), .val (.pointer (some ⟨gy, 1, none⟩)), .val (.slice (some ea) x.2.length c2), .val (.int .i64 (j : Int)), .val (.pointer (some (ea.add j))), .val (.int .i32 z), .val (.int .u32 (z % 4294967296)), newB ((w32 z).map (Value.int .u8)).toArray 5 4] (fun W => Below W10.heap.size W10 W) (by kernel_rfl) (Below.refl _ _) ?_ ?_
            · intro vs W hG a1 ha1
              have e5 : a1.eval (.tmp 5) = u8 := eo ha1 (by kernel_rfl)
              have e9 : a1.eval (.tmp 9) = .pointer (some ⟨gy, 0, none⟩) := eo ha1 (by kernel_rfl)
              have e11 : a1.eval (.tmp 11) = .int .i64 (j : Int) := eo ha1 (by kernel_rfl)
              have i126 := ei (d := 126) ha1 1 (by kernel_rfl) rfl rfl (by simp)
              have i127 := ei (d := 127) ha1 2 (by kernel_rfl) rfl rfl (by simp)
              have i128 := ei (d := 128) ha1 3 (by kernel_rfl) rfl rfl (by simp)
              have i129 := ei (d := 129) ha1 4 (by kernel_rfl) rfl rfl (by simp)
              have i130 := ei (d := 130) ha1 5 (by kernel_rfl) rfl rfl (by simp)
              have i131 := ei (d := 131) ha1 6 (by kernel_rfl) rfl rfl (by simp)
              clear ha1
              refine And.intro ?_ (And.intro ?_ (And.intro ?_ (And.intro ?_ (And.intro ?_ (And.intro ?_ (And.intro ?_ (And.intro ?_ (trivial))))))))
              · intro hp K hK
                refine g_no rfl ?_
                exact st_move (.inl rfl) (e5) (hK _ _ rfl hG (Below.refl _ _))
              · intro hp K hK
                refine g_no rfl ?_
                exact st_field rfl (e9) (by kernel_rfl) (hK _ _ rfl hG (Below.refl _ _))
              · intro hp K hK
                refine g_no rfl ?_
                have e126 : a1.eval (.tmp 126) = _ := i126.trans (hp 1 (by kernel_rfl))
                exact st_load rfl (e126) (ld_cell 40 (by kernel_rfl) ((blk_cell (blk_below HYB.out hG) 1).trans rfl)) (hK _ _ rfl hG (Below.refl _ _))
              · intro hp K hK
                refine g_no rfl ?_
                exact st_move (.inl rfl) (e11) (hK _ _ rfl hG (Below.refl _ _))
              · intro hp K hK
                refine g_no rfl ?_
                have e127 : a1.eval (.tmp 127) = _ := i127.trans (hp 2 (by kernel_rfl))
                have e128 : a1.eval (.tmp 128) = _ := i128.trans (hp 3 (by kernel_rfl))
                exact st_index rfl (e127) (e128) (hix _) (hK _ _ rfl hG (Below.refl _ _))
              · intro hp K hK
                refine g_no rfl ?_
                have e129 : a1.eval (.tmp 129) = _ := i129.trans (hp 4 (by kernel_rfl))
                exact st_load rfl (e129) (ld_cell 21 (by kernel_rfl) (cw hG HCELL.out)) (hK _ _ rfl hG (Below.refl _ _))
              · intro hp K hK
                refine g_no rfl ?_
                have e130 : a1.eval (.tmp 130) = _ := i130.trans (hp 5 (by kernel_rfl))
                exact st_conv rfl (e130) (cv2160 _ _) (hK _ _ rfl hG (Below.refl _ _))
              · intro hp K hK
                refine g_no rfl ?_
                have e131 : a1.eval (.tmp 131) = _ := i131.trans (hp 6 (by kernel_rfl))
                refine st_call rfl (by first | (simp only [List.map_toArray, List.map_cons, List.map_nil, eval_const, e131]; done) | (simp only [List.map_toArray, List.map_cons, List.map_nil, eval_const, e131]; rfl)) (by kernel_rfl) ?_
                refine (word_is z _).mono ?_
                rintro e w' ⟨gg, rfl, hgg, hb'⟩
                exact ⟨_, rfl, hK _ _ ⟨_, rfl, hgg⟩ (below_step hG hb') hb'⟩
            intro vs W hG hp a1 ha1
            have q0 : vs 0 = _ := hp 0 (by decide)
            have q7 : ∃ gg, (vs 7) = .slice (some ⟨gg, 0, none⟩) 4 4 ∧ W.heap[gg]? = some (.cells ((w32 z).map (Value.int .u8)).toArray 5 (0, 0)) := hp 7 (by decide)
            clear hp
            simp only [fill, Act.put, List.append_eq, List.cons_append, List.nil_append, List.take_succ_cons, List.take_zero, List.setIfInBounds_toArray, List.set_cons_succ, List.set_cons_zero, Nat.reduceAdd, Nat.zero_add, q0] at ha1
            subst ha1
            simp only [List.append_eq, List.cons_append, List.nil_append, List.drop_succ_cons, List.drop_zero]
            clear q0
            obtain ⟨gg, hv, hgg⟩ := q7
            rw [hv]
            clear hv
            have HGG := Lib.hid hgg
            have HRG := Lib.hid (HS.out.1.below hG)
            have HYG := Lib.hid (blk_below HYB.out hG)
            clear hgg hG HYB hix HS
            go_wp2_with ((with_reducible refine gate_builtin (b := .append) (xs := #[.tmp 125, .tmp 132]) rfl ?_); at_builtin; refine Kd.R_append_rows (Kd.int .u8) (Rr := (Kd.int .u8).K (W)) (w0 := W) W1.heap.size rfl (.tmp 125) (.tmp 132) 28 5 (.int .u8 0) 1 rfl Try.underlying28 info5 rfl (by decide) (by omega) (u8) (bs9 ++ (x.2.take j).flatMap w32) (w32 z) (some ⟨gg, 0, none⟩) (4) (4) (fun _ => True) (fun _ => False) rfl rfl (HRG.out).2 (C_mk (xs := w32 z) HGG.out (by rw [w32_len]; decide)) (fun _ _ h => h) (fun _ hk => hk.elim) (fun _ _ => trivial) (Below.refl _ _) (HRG.out).1.bel.size (by rw [List.length_append, flat_len, List.length_take]; omega) ?_; intro v11 W11 ho hb hg hat; have HRW11 := Lib.hid (RW.app (HRG.out) ho hb hg); have HYW11 := Lib.hid ((hg.block _ (blk_lt HYG.out) (Kd.R_ne HRG.out.2 HYG.out (by decide))).trans HYG.out); clear ho hb hg hat)
            refine HK5.out _ _ ?_; clear HK5
            go_wp2
            exact ⟨loop_frame (by kernel_rfl), ⟨j + 1, by show Value.int .i64 _ = _; simp, by omega, _, rfl, by rw [flat_snoc w32 HZ.out, ← List.append_assoc]; exact HRW11.out, HYW11.out⟩, Msr.lt (by omega)⟩
          · have hd : decide ((j : Int) < (x.2.length : Int)) = false := decide_eq_false (by omega)
            obtain rfl : j = x.2.length := by omega
            rw [List.take_length] at HS
            have r := (blk_cell HS.out.2 1).trans (show _ = some (Value.slice A2 x.2.length c2) from rfl)
            go_wp2
            clear r
            refine HK8.out _ _ ?_; clear HK8
            go_wp2
            refine ⟨loop_frame (by kernel_rfl), ⟨i + 1, by show Value.int .i64 _ = _; simp, by omega, _, rfl, ?_, ?_⟩, Msr.lt (by omega)⟩
            · rw [any_snoc bothC HHX.out, HBO.out, HBN.out]
              rfl
            · have h := HS.out.1
              rw [flat_snoc2 cb HHX.out, ← List.append_assoc, HB6.out]
              unfold cb
              rw [← List.append_assoc, ← List.append_assoc, ← List.append_assoc, HB7.out, HB8.out, HB9.out]
              exact h
      · have hd : decide ((i : Int) < (cs.length : Int)) = false := decide_eq_false (by omega)
        obtain rfl : i = cs.length := by omega
        rw [List.take_length] at *
        have hX6 := HS.out.1.oth _ _ _ HX.out (by decide) (by decide)
        have c3 := (blk_cell hX6 3).trans (show _ = some (Value.slice AU cs.length cU) from rfl)
        go_wp2
        clear c3
        refine HK1.out _ _ ?_; clear HK1
        have hbd : (cs.flatMap cb).length ≤ 35840 := by
          have g1 := flat_le (f := cb) (m := 448) (l := cs) (fun y hy => by
            rw [cb_len]
            have := HSM.out y hy
            omega)
          have g2 : cs.length ≤ 80 := by omega
          exact Nat.le_trans g1 (Nat.mul_le_mul_right 448 g2)
        obtain ⟨bsA, hbA⟩ : ∃ bsA, bs5 ++ cs.flatMap cb = bsA := ⟨_, rfl⟩
        have hlA : bsA.length ≤ 35868 := by rw [← hbA, List.length_append]; omega
        rw [hbA] at HS
        have HBA := Lib.hid hbA
        have HSA := HS
        have HXA := Lib.hid hX6
        have c4 := (blk_cell hX6 4).trans (show _ = some (Value.slice AV ns.length cV) from rfl)
        clear hbA hbd HS hX6 hi hil hd
        apply wp_seq_k; intro K1 hK1; have HK1 := Lib.hid hK1; clear hK1
        go_wp2
        refine wp_loopS [5, 6, 12, 13, 14, 134, 135, 136, 137, 138, 139, 140, 141, 142, 143, 144, 145, 146, 147, 148, 149, 150, 151, 152, 153, 154, 155, 156, 157] (fun sl W => ∃ j : Nat, sl 12 = .int .i64 (j : Int) ∧ j ≤ ns.length ∧ ∃ u9, sl 5 = u9 ∧ sl 6 = .bool ((ns.take j).all nok && ok) ∧ RW W1 W u9 (bsA ++ (ns.take j).flatMap nb)) (fun sl W => Msr (ns.length : Int) (sl 12)) ⟨0, rfl, Nat.zero_le _, _, rfl, rfl, (show RW W1 W6 u (bsA ++ []) from by rw [List.append_nil]; exact HSA.out)⟩ ?_
        intro vs7 W7 a7 hb7' hI
        obtain ⟨j, hsl, hi, u9, hv0, hv1, hS⟩ := hI
        simp only [setSlots, Act.put, List.setIfInBounds_toArray, List.set_cons_succ, List.set_cons_zero] at hb7'
        subst hb7'
        replace hsl : vs7 12 = .int .i64 (j : Int) := hsl
        replace hv0 : vs7 5 = u9 := hv0
        replace hv1 : vs7 6 = .bool ((ns.take j).all nok && ok) := hv1
        rw [hsl, hv0, hv1]
        clear hsl hv0 hv1
        have HS := Lib.hid hS
        clear hS
        by_cases hil : j < ns.length
        rotate_left
        clear HSA HXA c4
        rotate_left
        · have hd : decide ((j : Int) < (ns.length : Int)) = true := decide_eq_true (by omega)
          have hinc : IntKind.i64.wrap ((j : Int) + 1) = (j : Int) + 1 := IntWalk.i64_in _ (by omega)
          obtain ⟨x, hx⟩ : ∃ x, ns[j]? = some x := ⟨_, List.getElem?_eq_getElem hil⟩
          obtain ⟨ad, hAd, hcell⟩ := nd_get HN.out hx
          subst hAd
          have hcell7 := cells_below hcell (below_step HB.out HS.out.1.bel)
          have hX7 := HS.out.1.oth _ _ _ HX.out (by decide) (by decide)
          have hxm := HM'.out x (List.mem_of_getElem? hx)
          have hbd : ((ns.take j).flatMap nb).length ≤ 4320 := by
            have g1 := flat_le (f := nb) (m := 108) (l := ns.take j) (fun y hy => by rw [nb_len]; omega)
            have g2 : (ns.take j).length ≤ 40 := by rw [List.length_take]; omega
            exact Nat.le_trans g1 (Nat.mul_le_mul_right 108 g2)
          obtain ⟨bsJ, hbJ⟩ : ∃ bsJ, bsA ++ (ns.take j).flatMap nb = bsJ := ⟨_, rfl⟩
          have hlJ : bsJ.length ≤ 40188 := by rw [← hbJ, List.length_append]; omega
          rw [hbJ] at HS
          obtain ⟨LN, hLN⟩ : ∃ LN, (nums x).flatMap w32 = LN := ⟨_, rfl⟩
          obtain ⟨okn, hokn⟩ : ∃ okn, (nums x).all in32 = okn := ⟨_, rfl⟩
          obtain ⟨oj, hoj⟩ : ∃ oj, ((ns.take j).all nok && ok) = oj := ⟨_, rfl⟩
          have hlN : LN.length = 108 := by rw [← hLN]; exact nb_len x
          rw [hoj]
          have HBJ := Lib.hid hbJ
          have HLN := Lib.hid hLN
          have HOKN := Lib.hid hokn
          have HOJ := Lib.hid hoj
          have HLL2 := Lib.hid hlN
          have HCE := Lib.hid hcell7
          have HX7 := Lib.hid hX7
          have HXM := Lib.hid hxm
          have HHX := Lib.hid hx
          have c4 := (blk_cell hX7 4).trans (show _ = some (Value.slice (some ad) ns.length cV) from rfl)
          clear hcell hcell7 hX7 hxm hbd hbJ hLN hokn hoj hlN hx
          apply wp_seq_k; intro K2 hK2; have HK2 := Lib.hid hK2; clear hK2
          go_wp2
          clear c4
          refine HK2.out _ _ ?_; clear HK2
          apply wp_seq_k; intro K8 hK8; have HK8 := Lib.hid hK8; clear hK8
          apply wp_block
          apply wp_seq_k; intro K3 hK3; have HK3 := Lib.hid hK3; clear hK3
          refine wp_listed (R := fun W W' => Below W.heap.size W W') 5 [.val (.pointer (some ⟨w.heap.size, 4, none⟩)), .val (.slice (some ad) ns.length cV), .val (.int .i64 (j : Int)), .val (.pointer (some (ad.add (j * 26)))), .val (.agg (nrow x).toArray)] (fun W => Below W7.heap.size W7 W) (by kernel_rfl) (Below.refl _ _) ?_ ?_
          · intro vs W hG a1 ha1
            have e1 : a1.eval (.tmp 1) = .pointer (some ⟨w.heap.size, 0, none⟩) := eo ha1 (by kernel_rfl)
            have e12 : a1.eval (.tmp 12) = .int .i64 (j : Int) := eo ha1 (by kernel_rfl)
            have i142 := ei (d := 142) ha1 0 (by kernel_rfl) rfl rfl (by simp)
            have i143 := ei (d := 143) ha1 1 (by kernel_rfl) rfl rfl (by simp)
            have i144 := ei (d := 144) ha1 2 (by kernel_rfl) rfl rfl (by simp)
            have i145 := ei (d := 145) ha1 3 (by kernel_rfl) rfl rfl (by simp)
            clear ha1
            refine And.intro ?_ (And.intro ?_ (And.intro ?_ (And.intro ?_ (And.intro ?_ (trivial)))))
            · intro hp K hK
              refine g_no rfl ?_
              exact st_field rfl (e1) (by kernel_rfl) (hK _ _ rfl hG (Below.refl _ _))
            · intro hp K hK
              refine g_no rfl ?_
              have e142 : a1.eval (.tmp 142) = _ := i142.trans (hp 0 (by kernel_rfl))
              exact st_load rfl (e142) (ld_cell 24 (by kernel_rfl) ((blk_cell (blk_below HX7.out hG) 4).trans rfl)) (hK _ _ rfl hG (Below.refl _ _))
            · intro hp K hK
              refine g_no rfl ?_
              exact st_move (.inl rfl) (e12) (hK _ _ rfl hG (Below.refl _ _))
            · intro hp K hK
              refine g_no rfl ?_
              have e143 : a1.eval (.tmp 143) = _ := i143.trans (hp 1 (by kernel_rfl))
              have e144 : a1.eval (.tmp 144) = _ := i144.trans (hp 2 (by kernel_rfl))
              exact st_index rfl (e143) (e144) (ix24 ad ns.length cV j hil _) (hK _ _ rfl hG (Below.refl _ _))
            · intro hp K hK
              refine g_no rfl ?_
              have e145 : a1.eval (.tmp 145) = _ := i145.trans (hp 3 (by kernel_rfl))
              exact st_load rfl (e145) (ld55 HCE.out hG) (hK _ _ rfl hG (Below.refl _ _))
          intro vs W hG hp a1 ha1
          have q4 : vs 4 = _ := hp 4 (by decide)
          clear hp
          simp only [fill, Act.put, List.append_eq, List.cons_append, List.nil_append, List.take_succ_cons, List.take_zero, List.setIfInBounds_toArray, List.set_cons_succ, List.set_cons_zero, Nat.reduceAdd, Nat.zero_add, q4] at ha1
          subst ha1
          simp only [List.append_eq, List.cons_append, List.nil_append, List.drop_succ_cons, List.drop_zero]
          clear q4
          have HRS := Lib.hid (HS.out.below hG)
          clear hG HS HX7
          go_wp2_with (first | (go_at_call 18; refine (nums_r x _ HXM.out.1 HXM.out.2).mono ?_; rintro e W8 ⟨g8, rfl, hg8, hB8⟩; have HG8 := Lib.hid hg8; have HB8 := Lib.hid hB8; clear hg8 hB8) | (go_at_call 16; refine (put_rr (some ⟨g8, 0, none⟩) 27 27 (nums x) LN okn W8 rfl HLN.out HOKN.out (by decide) (C_mk (xs := nums x) HG8.out (by show 27 ≤ _; decide))).mono ?_; rintro e W9 ⟨A9, c9, rfl, hR9, hB9⟩; have HC9 := Lib.hid (Kd.R_reads' hR9).2.2; have HB9 := Lib.hid hB9; clear hR9 hB9))
          refine HK3.out _ _ ?_; clear HK3
          have HR9 := Lib.hid (HRS.out.below (below_step HB8.out HB9.out))
          clear HRS HB8 HB9 HG8
          cases oj
          · go_wp2_with ((with_reducible refine gate_builtin (b := .append) (xs := #[.tmp 151, .tmp 152]) rfl ?_); at_builtin; refine Kd.R_append_rows (Kd.int .u8) (Rr := (Kd.int .u8).K (W9)) (w0 := W9) W1.heap.size rfl (.tmp 151) (.tmp 152) 28 5 (.int .u8 0) 1 rfl Try.underlying28 info5 rfl (by decide) (by omega) (u9) (bsJ) (LN) (A9) (LN.length) (c9) (fun _ => True) (fun _ => False) rfl rfl (HR9.out).2 (HC9.out) (fun _ _ h => h) (fun _ hk => hk.elim) (fun _ _ => trivial) (Below.refl _ _) (HR9.out).1.bel.size (by rw [HLL2.out]; omega) ?_; intro v10 W10 ho hb hg hat; have HRW10 := Lib.hid (RW.app (HR9.out) ho hb hg); clear ho hb hg hat)
            refine HK8.out _ _ ?_; clear HK8
            go_wp2
            refine ⟨loop_frame (by kernel_rfl), ⟨j + 1, by show Value.int .i64 _ = _; simp, by omega, _, rfl, ?_, ?_⟩, Msr.lt (by omega)⟩
            · rw [all_snoc2 nok HHX.out, and_perm HOJ.out]
              show _ = Value.bool (false && (nums x).all in32)
              rw [HOKN.out]
              rfl
            · rw [flat_snoc2 nb HHX.out, ← List.append_assoc, HBJ.out]
              show RW W1 W10 _ (bsJ ++ (nums x).flatMap w32)
              rw [HLN.out]
              exact HRW10.out
          · go_wp2_with ((with_reducible refine gate_builtin (b := .append) (xs := #[.tmp 151, .tmp 152]) rfl ?_); at_builtin; refine Kd.R_append_rows (Kd.int .u8) (Rr := (Kd.int .u8).K (W9)) (w0 := W9) W1.heap.size rfl (.tmp 151) (.tmp 152) 28 5 (.int .u8 0) 1 rfl Try.underlying28 info5 rfl (by decide) (by omega) (u9) (bsJ) (LN) (A9) (LN.length) (c9) (fun _ => True) (fun _ => False) rfl rfl (HR9.out).2 (HC9.out) (fun _ _ h => h) (fun _ hk => hk.elim) (fun _ _ => trivial) (Below.refl _ _) (HR9.out).1.bel.size (by rw [HLL2.out]; omega) ?_; intro v10 W10 ho hb hg hat; have HRW10 := Lib.hid (RW.app (HR9.out) ho hb hg); clear ho hb hg hat)
            refine HK8.out _ _ ?_; clear HK8
            go_wp2
            refine ⟨loop_frame (by kernel_rfl), ⟨j + 1, by show Value.int .i64 _ = _; simp, by omega, _, rfl, ?_, ?_⟩, Msr.lt (by omega)⟩
            · rw [all_snoc2 nok HHX.out, and_perm HOJ.out]
              show _ = Value.bool (true && (nums x).all in32)
              rw [HOKN.out]
              rfl
            · rw [flat_snoc2 nb HHX.out, ← List.append_assoc, HBJ.out]
              show RW W1 W10 _ (bsJ ++ (nums x).flatMap w32)
              rw [HLN.out]
              exact HRW10.out
        · have hd : decide ((j : Int) < (ns.length : Int)) = false := decide_eq_false (by omega)
          obtain rfl : j = ns.length := by omega
          rw [List.take_length] at *
          have hX7 := HS.out.1.oth _ _ _ HX.out (by decide) (by decide)
          have c4 := (blk_cell hX7 4).trans (show _ = some (Value.slice AV ns.length cV) from rfl)
          go_wp2
          clear c4 hX7
          refine HK1.out _ _ ?_; clear HK1
          have hgk : gok a b c o cs ns = (ns.all nok && ok) := by rw [small_gok HSM.out H32'.out, HOK.out, Bool.and_comm]
          have hgb : gb a b c o cs ns = bsA ++ ns.flatMap nb := by rw [gb_hd, HLL.out, HB5.out, HBA.out]
          rw [← hgk]
          rw [← hgb] at HS
          obtain ⟨Au, cu, hu⟩ := Kd.R_slice HS.out.2
          subst hu
          obtain ⟨okf, hokf⟩ : ∃ okf, gok a b c o cs ns = okf := ⟨_, rfl⟩
          obtain ⟨bt, hbt⟩ : ∃ bt, cs.any bothC = bt := ⟨_, rfl⟩
          rw [hokf, hbt]
          have HOF := Lib.hid hokf
          have HBT := Lib.hid hbt
          have BSZ := HB.out.size
          have BB := Lib.hid (below_step HB.out HS.out.1.bel)
          have BS7 := BB.out.size
          clear hgk hgb hokf hbt hd hi hil
          obtain ⟨GL, hGL⟩ : ∃ GL, (gb a b c o cs ns).length = GL := ⟨_, rfl⟩
          rw [hGL]
          have HGL := Lib.hid hGL
          clear hGL
          cases okf
          · rw [gw_bad (.inl HOF.out)]
            go_wp2
            go_ret2
            exact ⟨_, rfl, Kd.R_lower (R_fresh (k := .u8) (xs := []) (blk_new W7 (.cells #[] 5)) (Nat.le_refl _) (by decide)) BS7, below_alloc BB.out _⟩
          · by_cases hlg : 1048576 < GL
            · have d1 : decide ((1048576 : Int) < (GL : Int)) = true := decide_eq_true (by omega)
              rw [gw_bad (.inr (by rw [HGL.out]; exact hlg))]
              go_wp2
              go_ret2
              exact ⟨_, rfl, Kd.R_lower (R_fresh (k := .u8) (xs := []) (blk_new W7 (.cells #[] 5)) (Nat.le_refl _) (by decide)) BS7, below_alloc BB.out _⟩
            · have d1 : decide ((1048576 : Int) < (GL : Int)) = false := decide_eq_false (by omega)
              cases bt
              · rw [gw_ok HSM.out h1 h2 HOF.out (by rw [HGL.out]; exact hlg) HBT.out]
                go_wp2
                go_ret2
                exact ⟨_, rfl, by rw [← HGL.out]; exact Kd.R_lower HS.out.2 BSZ, BB.out⟩
              · rw [gw_both HSM.out h1 h2 HOF.out (by rw [HGL.out]; exact hlg) HBT.out]
                go_wp2
                go_ret2
                exact ⟨_, rfl, Kd.R_lower (R_fresh (k := .u8) (xs := []) (blk_new W7 (.cells #[] 5)) (Nat.le_refl _) (by decide)) BS7, below_alloc BB.out _⟩
end Go.Proofs.Ytieoklpgnmbpjaa.Gr
