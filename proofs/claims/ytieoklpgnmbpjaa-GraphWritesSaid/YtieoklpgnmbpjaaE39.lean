/- The law GraphWrites, the walk. -/
import Derived.Test.YtieoklpgnmbpjaaE33
import Derived.Test.YtieoklpgnmbpjaaE28
namespace Go.Proofs.Ytieoklpgnmbpjaa.Gr
open Go.RowKit Dr
open Go.Proofs.YtieoklpgnmbpjaaW.PrintWords (Kd Kd.C Kd.R Kd.M_step Kd.C_below Kd.C_get Kd.R_below Kd.R_reads Kd.R_reads' Kd.R_types Kd.R_step Kd.R_alloc Kd.R_drew Kd.R_lower add_field Kd.R_append Kd.R_bound Kd.R_move Kd.R_mono Kd.R_nil Kd.R_set Kd.R_ne Kd.R_over' Kd.R_typed Kd.C_nil Kd.R_slice Kd.R_append_rows Kd.R_form ReadsRow Kd.C_string)
set_option linter.unusedVariables false
set_option linter.unusedSimpArgs false
set_option maxRecDepth 100000
set_option maxHeartbeats 64000000 in
theorem writes_law (a b c o : Int) (AU AV : Option Addr) (cU cV : Nat) (cs : List (List Int × List Int)) (ns : List (List Int)) (w : World) (hcU : cs.length ≤ cU) (hcV : ns.length ≤ cV) (hC : kCo.C w AU cs.length cs) (hN : kNd.C w AV ns.length ns) (H8 : ∀ x ∈ cs, ∀ z ∈ x.1, -128 ≤ z ∧ z ≤ 127) (H32 : ∀ x ∈ cs, ∀ z ∈ x.2, -2147483648 ≤ z ∧ z ≤ 2147483647) (HM : ∀ x ∈ ns, (-2147483648 ≤ x.getD 14 0 ∧ x.getD 14 0 ≤ 2147483647) ∧ (-2147483648 ≤ x.getD 15 0 ∧ x.getD 15 0 ≤ 2147483647)) :
    Calls Try.prog 3 #[.agg #[.int .i64 a, .int .i64 b, .int .i64 c, .slice AU cs.length cU, .slice AV ns.length cV, .int .i64 o]] w fun e w' => e = .returned (.bool true) ∧ Below w.heap.size w w' := by
  have hX := blk_new w (.cells #[.int .i64 a, .int .i64 b, .int .i64 c, .slice AU cs.length cU, .slice AV ns.length cV, .int .i64 o] 26)
  have hB := below_alloc (Below.refl w.heap.size w) (.cells #[.int .i64 a, .int .i64 b, .int .i64 c, .slice AU cs.length cU, .slice AV ns.length cV, .int .i64 o] 26)
  obtain ⟨ds, hds⟩ : ∃ ds, (cs.take 82).map fewX = ds := ⟨_, rfl⟩
  obtain ⟨ms, hms⟩ : ∃ ms, ns.take 45 = ms := ⟨_, rfl⟩
  have D8 : ∀ x ∈ ds, ∀ z ∈ x.1, -128 ≤ z ∧ z ≤ 127 := fun x hx z hz => by
    rw [← hds] at hx
    obtain ⟨y, hy, rfl⟩ := few_mem hx
    exact H8 y hy z (List.mem_of_mem_take hz)
  have D32 : ∀ x ∈ ds, ∀ z ∈ x.2, -2147483648 ≤ z ∧ z ≤ 2147483647 := fun x hx z hz => by
    rw [← hds] at hx
    obtain ⟨y, hy, rfl⟩ := few_mem hx
    exact H32 y hy z (List.mem_of_mem_take hz)
  have DM : ∀ x ∈ ms, (-2147483648 ≤ x.getD 14 0 ∧ x.getD 14 0 ≤ 2147483647) ∧ (-2147483648 ≤ x.getD 15 0 ∧ x.getD 15 0 ≤ 2147483647) := fun x hx => HM x (by rw [← hms] at hx; exact List.mem_of_mem_take hx)
  have DS : smallC ds := fun x hx => by
    rw [← hds] at hx
    obtain ⟨y, hy, rfl⟩ := few_mem hx
    simp only [List.length_take]
    omega
  have HC := Lib.hid hC
  have HN := Lib.hid hN
  have HDS := Lib.hid hds
  have HMS := Lib.hid hms
  have HD8 := Lib.hid D8
  have HD32 := Lib.hid D32
  have HDM := Lib.hid DM
  have HSM := Lib.hid DS
  clear hC hN hds hms D8 D32 DM DS H8 H32 HM
  go_enter Try.func3, Try.ntmps3
  apply wp_seq_k; intro K1 hK1; have HK1 := Lib.hid hK1; clear hK1
  go_wp2
  refine HK1.out _ _ ?_; clear HK1
  generalize w.alloc (.cells #[.int .i64 a, .int .i64 b, .int .i64 c, .slice AU cs.length cU, .slice AV ns.length cV, .int .i64 o] 26) = W1 at *
  have HX := Lib.hid hX
  have HB := Lib.hid hB
  clear hX hB
  have p0 := (blk_cell HX.out 0).trans (show _ = some (Value.int .i64 a) from rfl)
  have p1 := (blk_cell HX.out 1).trans (show _ = some (Value.int .i64 b) from rfl)
  have p2 := (blk_cell HX.out 2).trans (show _ = some (Value.int .i64 c) from rfl)
  have p3 := (blk_cell HX.out 3).trans (show _ = some (Value.slice AU cs.length cU) from rfl)
  have p4 := (blk_cell HX.out 4).trans (show _ = some (Value.slice AV ns.length cV) from rfl)
  have p5 := (blk_cell HX.out 5).trans (show _ = some (Value.int .i64 o) from rfl)
  apply wp_seq_k; intro K1 hK1; have HK1 := Lib.hid hK1; clear hK1
  go_wp2_with (go_at_call 6; refine (few_is a b c o AU AV cU cV cs ds ns ms _ hcU hcV (Kd.C_below HC.out HB.out) (Kd.C_below HN.out HB.out) HDS.out HMS.out).mono ?_; rintro e W2 ⟨Au, cu, Av, cv, rfl, hu, hv, hB2⟩; have HU := Lib.hid hu; have HV := Lib.hid hv; have HB2 := Lib.hid hB2; have HX2 := Lib.hid (blk_below HX.out hB2); clear hu hv hB2; have q0 := (blk_cell HX2.out 0).trans (show _ = some (Value.int .i64 a) from rfl); have q1 := (blk_cell HX2.out 1).trans (show _ = some (Value.int .i64 b) from rfl); have q2 := (blk_cell HX2.out 2).trans (show _ = some (Value.int .i64 c) from rfl); have q3 := (blk_cell HX2.out 3).trans (show _ = some (Value.slice AU cs.length cU) from rfl); have q4 := (blk_cell HX2.out 4).trans (show _ = some (Value.slice AV ns.length cV) from rfl); have q5 := (blk_cell HX2.out 5).trans (show _ = some (Value.int .i64 o) from rfl); have f0 := blk_frozen HX2.out 0; have f1 := blk_frozen HX2.out 1; have f2 := blk_frozen HX2.out 2; have f3 := blk_frozen HX2.out 3; have f4 := blk_frozen HX2.out 4; have f5 := blk_frozen HX2.out 5)
  refine HK1.out _ _ ?_; clear HK1
  change Code.wp _ _ _ _ (W2.setCells w.heap.size 0 [.int .i64 a, .int .i64 b, .int .i64 c, .slice Au ds.length cu, .slice Av ms.length cv, .int .i64 o])
  have x3 := blk_puts (cs' := #[.int .i64 a, .int .i64 b, .int .i64 c, .slice Au ds.length cu, .slice Av ms.length cv, .int .i64 o]) HX2.out rfl
  have u3 := (Kd.R_reads' (R_sets (by decide) [.int .i64 a, .int .i64 b, .int .i64 c, .slice Au ds.length cu, .slice Av ms.length cv, .int .i64 o] 0 _ _ HU.out HX2.out)).2.2
  have v3 := (Kd.R_reads' (R_sets (by decide) [.int .i64 a, .int .i64 b, .int .i64 c, .slice Au ds.length cu, .slice Av ms.length cv, .int .i64 o] 0 _ _ HV.out HX2.out)).2.2
  have b3 : Below w.heap.size w (W2.setCells w.heap.size 0 [.int .i64 a, .int .i64 b, .int .i64 c, .slice Au ds.length cu, .slice Av ms.length cv, .int .i64 o]) := below_setsL _ 0 0 (below_step HB.out HB2.out) (Nat.le_refl _)
  clear p0 p1 p2 p3 p4 p5 q0 q1 q2 q3 q4 q5 f0 f1 f2 f3 f4 f5
  generalize W2.setCells w.heap.size 0 [.int .i64 a, .int .i64 b, .int .i64 c, .slice Au ds.length cu, .slice Av ms.length cv, .int .i64 o] = W3 at x3 u3 v3 b3 ⊢
  have HX3 := Lib.hid x3
  have HU3 := Lib.hid u3
  have HV3 := Lib.hid v3
  have HB3 := Lib.hid b3
  clear x3 u3 v3 b3 HX2 HU HV HB2 HX HB HC HN HDS HMS
  obtain ⟨GL, hGL⟩ : ∃ GL, (gw a b c o ds ms).1 = GL := ⟨_, rfl⟩
  obtain ⟨k, hk⟩ : ∃ k, (gw a b c o ds ms).2 = k := ⟨_, rfl⟩
  have HGL := Lib.hid hGL
  have HKK := Lib.hid hk
  clear hGL hk
  have p0 := (blk_cell HX3.out 0).trans (show _ = some (Value.int .i64 a) from rfl)
  have p1 := (blk_cell HX3.out 1).trans (show _ = some (Value.int .i64 b) from rfl)
  have p2 := (blk_cell HX3.out 2).trans (show _ = some (Value.int .i64 c) from rfl)
  have p3 := (blk_cell HX3.out 3).trans (show _ = some (Value.slice Au ds.length cu) from rfl)
  have p4 := (blk_cell HX3.out 4).trans (show _ = some (Value.slice Av ms.length cv) from rfl)
  have p5 := (blk_cell HX3.out 5).trans (show _ = some (Value.int .i64 o) from rfl)
  apply wp_seq_k; intro K1 hK1; have HK1 := Lib.hid hK1; clear hK1
  go_wp2_with (go_at_call 7; refine (write_is a b c o Au Av cu cv ds ms _ HU3.out HV3.out HD32.out HDM.out).mono ?_; rintro e W4 hq; have hq := WQ_gw hq; rw [HGL.out, HKK.out] at hq; obtain ⟨A, cc, rfl, hR4, hB4⟩ := hq; have HB4 := Lib.hid hB4; have HR4 := Lib.hid hR4; clear hB4 hR4 hq)
  refine HK1.out _ _ ?_; clear HK1
  clear p0 p1 p2 p3 p4 p5
  have HX4 := Lib.hid (blk_below HX3.out HB4.out)
  have HU4 := Lib.hid (Kd.C_below HU3.out HB4.out)
  have HV4 := Lib.hid (Kd.C_below HV3.out HB4.out)
  have HBW := Lib.hid (below_step HB3.out HB4.out)
  clear HX3 HU3 HV3 HB3 HB4
  have p0 := (blk_cell HX4.out 0).trans (show _ = some (Value.int .i64 a) from rfl)
  have p1 := (blk_cell HX4.out 1).trans (show _ = some (Value.int .i64 b) from rfl)
  have p2 := (blk_cell HX4.out 2).trans (show _ = some (Value.int .i64 c) from rfl)
  have p3 := (blk_cell HX4.out 3).trans (show _ = some (Value.slice Au ds.length cu) from rfl)
  have p4 := (blk_cell HX4.out 4).trans (show _ = some (Value.slice Av ms.length cv) from rfl)
  have p5 := (blk_cell HX4.out 5).trans (show _ = some (Value.int .i64 o) from rfl)
  apply wp_seq_k; intro K1 hK1; have HK1 := Lib.hid hK1; clear hK1
  go_wp2_with (go_at_call 8; refine (rwrite_is a b c o Au Av cu cv ds ms _ HU4.out HV4.out HSM.out HD32.out HDM.out).mono ?_; rintro e W5 ⟨v5, rfl, hR5, hB5⟩; rw [HGL.out] at hR5; rw [HKK.out]; obtain ⟨A5, c5, rfl⟩ := Kd.R_slice hR5; have HB5 := Lib.hid hB5; have HR5 := Lib.hid hR5; clear hB5 hR5)
  refine HK1.out _ _ ?_; clear HK1
  clear p0 p1 p2 p3 p4 p5
  have HX5 := Lib.hid (blk_below HX4.out HB5.out)
  have HU5 := Lib.hid (Kd.C_below HU4.out HB5.out)
  have HV5 := Lib.hid (Kd.C_below HV4.out HB5.out)
  have HBX := Lib.hid (below_step HBW.out HB5.out)
  have HC1 := Lib.hid (Kd.C_below (Kd.R_reads' HR4.out).2.2 HB5.out)
  have hc1 := Kd.C_string (c := cc) Try.underlying28 Try.underlying5 Try.underlying9 HC1.out
  have hc2 := Kd.C_string (c := c5) Try.underlying28 Try.underlying5 Try.underlying9 (Kd.R_reads' HR5.out).2.2
  clear HX4 HU4 HV4 HBW HR4 HR5 HB5
  apply wp_seq_k; intro K1 hK1; have HK1 := Lib.hid hK1; clear hK1
  go_wp2
  refine HK1.out _ _ ?_; clear HK1
  clear hc1 hc2
  by_cases hk : k = 0
  rotate_left
  · have hk1 : (k != 0) = true := by simpa using hk
    go_wp2_with (go_at_call 9; refine (lives_is _).mono ?_; rintro e W6 ⟨rfl, hB6⟩)
    go_ret
    exact ⟨rfl, below_step HBX.out hB6⟩
  · obtain ⟨hg, hgb⟩ := gw_zero (HKK.out.trans hk) HD8.out HD32.out
    rw [HGL.out] at hgb
    have hsm : (gb a b c o ds ms).length ≤ 41000 := by
      have h1 := flat_le (f := cb) (m := 448) (l := ds) (fun x hx => by
        have := HSM.out x hx
        rw [cb_len]
        omega)
      have h2 := flat_le (f := nb) (m := 108) (l := ms) (fun x hx => by rw [nb_len]; omega)
      have h3 := Nat.le_trans h1 (Nat.mul_le_mul_right 448 hg.c80)
      have h4 := Nat.le_trans h2 (Nat.mul_le_mul_right 108 hg.n40)
      rw [gb_len]
      omega
    have PG := parse_good hg (by omega)
    rw [← hgb] at hsm
    simp only [← hgb] at PG
    have HPG := Lib.hid PG
    subst hk
    clear hgb hg PG HKK HGL HD8 HD32 HDM HSM
    apply wp_seq_k; intro K1 hK1; have HK1 := Lib.hid hK1; clear hK1
    go_wp2
    refine HK1.out _ _ ?_; clear HK1
    apply wp_seq_k; intro K1 hK1; have HK1 := Lib.hid hK1; clear hK1
    go_wp2_with (first | ((with_reducible refine gate_builtin (b := .append) (xs := #[.tmp 35, .tmp 36]) rfl ?_); at_builtin; refine Kd.R_append_rows (Kd.int .u8) (Rr := (Kd.int .u8).K (W5.alloc (.cells #[] 5))) (w0 := W5) W5.heap.size rfl (.tmp 35) (.tmp 36) 28 5 (.int .u8 0) 1 rfl Try.underlying28 info5 rfl (by decide) (by omega) (.slice (some ⟨W5.heap.size, 0, none⟩) 0 0) [] GL A GL.length cc (fun _ => True) (fun _ => False) rfl rfl (R_fresh (k := .u8) (xs := []) (blk_new W5 (.cells #[] 5)) (Nat.le_refl _) (by decide)) (Kd.C_below HC1.out (below_alloc (Below.refl _ _) _)) (fun _ _ h => h) (fun _ hk => hk.elim) (fun _ _ => trivial) (below_alloc (Below.refl _ _) _) (below_alloc (Below.refl _ _) _).size (by simp; omega) ?_; intro v6 w6 ho hb hg hat; have HO6 := Lib.hid ho; have HB6 := Lib.hid hb; clear ho hb hg hat) | (go_at_call 10; refine (HPG.out v6 w6 W5.heap.size HO6.out).mono ?_; rintro e w7 ⟨hB7, u, v, rfl, hu, hv⟩; obtain ⟨Ax, cx, rfl⟩ := Kd.R_slice hu; obtain ⟨Ay, cy, rfl⟩ := Kd.R_slice hv; have hv7 := (Kd.R_reads' hv).2.2; rw [List.length_map] at hv7 ⊢; have HU7 := Lib.hid (Kd.R_reads' hu).2.2; have HV7 := Lib.hid (C_nums hv7); have HB7 := Lib.hid hB7; clear hB7 hu hv))
    refine HK1.out _ _ ?_; clear HK1
    have hBa : Below W5.heap.size W5 w7 := below_step HB6.out HB7.out
    have hBb : Below W5.heap.size W5 (w7.alloc (.cells #[.int .i64 a, .int .i64 b, .int .i64 c, .slice Ax ds.length cx, .slice Ay ms.length cy, .int .i64 o] 26)) := below_alloc hBa _
    have HX8 := Lib.hid (blk_below HX5.out hBb)
    have HP8 := Lib.hid (blk_new w7 (.cells #[.int .i64 a, .int .i64 b, .int .i64 c, .slice Ax ds.length cx, .slice Ay ms.length cy, .int .i64 o] 26))
    have HU8 := Lib.hid (Kd.C_below HU5.out hBb)
    have HV8 := Lib.hid (Kd.C_below HV5.out hBb)
    have HU9 := Lib.hid (Kd.C_below HU7.out (below_alloc (Below.refl _ _) (.cells #[.int .i64 a, .int .i64 b, .int .i64 c, .slice Ax ds.length cx, .slice Ay ms.length cy, .int .i64 o] 26)))
    have HV9 := Lib.hid (Kd.C_below HV7.out (below_alloc (Below.refl _ _) (.cells #[.int .i64 a, .int .i64 b, .int .i64 c, .slice Ax ds.length cx, .slice Ay ms.length cy, .int .i64 o] 26)))
    have HBF := Lib.hid (below_step HBX.out hBb)
    change Code.wp _ _ _ _ (w7.alloc (.cells #[.int .i64 a, .int .i64 b, .int .i64 c, .slice Ax ds.length cx, .slice Ay ms.length cy, .int .i64 o] 26))
    generalize w7.alloc (.cells #[.int .i64 a, .int .i64 b, .int .i64 c, .slice Ax ds.length cx, .slice Ay ms.length cy, .int .i64 o] 26) = W8 at *
    generalize w7.heap.size = gp at *
    clear hBa hBb HX5 HU5 HV5 HBX HC1 HO6 HB6 HU7 HV7 HB7 HPG
    have p0 := (blk_cell HX8.out 0).trans (show _ = some (Value.int .i64 a) from rfl)
    have p1 := (blk_cell HX8.out 1).trans (show _ = some (Value.int .i64 b) from rfl)
    have p2 := (blk_cell HX8.out 2).trans (show _ = some (Value.int .i64 c) from rfl)
    have p3 := (blk_cell HX8.out 3).trans (show _ = some (Value.slice Au ds.length cu) from rfl)
    have p4 := (blk_cell HX8.out 4).trans (show _ = some (Value.slice Av ms.length cv) from rfl)
    have p5 := (blk_cell HX8.out 5).trans (show _ = some (Value.int .i64 o) from rfl)
    have q0 := (blk_cell HP8.out 0).trans (show _ = some (Value.int .i64 a) from rfl)
    have q1 := (blk_cell HP8.out 1).trans (show _ = some (Value.int .i64 b) from rfl)
    have q2 := (blk_cell HP8.out 2).trans (show _ = some (Value.int .i64 c) from rfl)
    have q3 := (blk_cell HP8.out 3).trans (show _ = some (Value.slice Ax ds.length cx) from rfl)
    have q4 := (blk_cell HP8.out 4).trans (show _ = some (Value.slice Ay ms.length cy) from rfl)
    have q5 := (blk_cell HP8.out 5).trans (show _ = some (Value.int .i64 o) from rfl)
    go_wp2_with (first | (go_at_call 11; refine (same_is a b c o Ax Ay Au Av cx cy cu cv ds ms _ HU9.out HV9.out HU8.out HV8.out).mono ?_; rintro e W9 ⟨rfl, hB9⟩; have HB9 := Lib.hid hB9; clear hB9) | (go_at_call 9; refine (lives_is _).mono ?_; rintro e W10 ⟨rfl, hB10⟩))
    go_wp2
    go_ret
    exact ⟨rfl, below_step (below_step HBF.out HB9.out) hB10⟩
end Go.Proofs.Ytieoklpgnmbpjaa.Gr
