/- The law GraphCut, the walk. -/
import Derived.Test.YtieoklpgnmbpjaaE27
namespace Go.Proofs.Ytieoklpgnmbpjaa.Gr
open Go.RowKit Dr
open Go.Proofs.YtieoklpgnmbpjaaW.PrintWords (Kd Kd.C Kd.R Kd.M_step Kd.C_below Kd.C_get Kd.R_below Kd.R_reads Kd.R_reads' Kd.R_types Kd.R_step Kd.R_alloc Kd.R_drew Kd.R_lower add_field Kd.R_append Kd.R_bound Kd.R_move Kd.R_mono Kd.R_nil Kd.R_set Kd.R_ne Kd.R_over' Kd.R_typed Kd.C_nil Kd.R_slice Kd.R_append_rows Kd.R_form ReadsRow Kd.C_string)
set_option linter.unusedVariables false
set_option linter.unusedSimpArgs false
set_option maxRecDepth 100000
set_option maxHeartbeats 64000000 in
theorem cut_law (a b c o : Int) (AU AV : Option Addr) (cU cV : Nat) (cs : List (List Int × List Int)) (ns : List (List Int)) (n : Nat) (AM : Option Addr) (more : List Int) (cM : Nat) (w : World) (hcU : cs.length ≤ cU) (hcV : ns.length ≤ cV) (hC : kCo.C w AU cs.length cs) (hN : kNd.C w AV ns.length ns) (H8 : ∀ x ∈ cs, ∀ z ∈ x.1, -128 ≤ z ∧ z ≤ 127) (H32 : ∀ x ∈ cs, ∀ z ∈ x.2, -2147483648 ≤ z ∧ z ≤ 2147483647) (HM : ∀ x ∈ ns, (-2147483648 ≤ x.getD 14 0 ∧ x.getD 14 0 ≤ 2147483647) ∧ (-2147483648 ≤ x.getD 15 0 ∧ x.getD 15 0 ≤ 2147483647)) (hM : Kd.C (Kd.int .u8) w AM more.length more) (hmo : okB more) (hcM : more.length ≤ cM) (hn : n < 65536) :
    Calls Try.prog 4 #[.agg #[.int .i64 a, .int .i64 b, .int .i64 c, .slice AU cs.length cU, .slice AV ns.length cV, .int .i64 o], .int .u16 (n : Int), .slice AM more.length cM] w fun e w' => e = .returned (.bool true) ∧ Below w.heap.size w w' := by
  have hX := blk_new w (.cells #[.int .i64 a, .int .i64 b, .int .i64 c, .slice AU cs.length cU, .slice AV ns.length cV, .int .i64 o] 26)
  have hB := below_alloc (Below.refl w.heap.size w) (.cells #[.int .i64 a, .int .i64 b, .int .i64 c, .slice AU cs.length cU, .slice AV ns.length cV, .int .i64 o] 26)
  obtain ⟨ds, hds⟩ : ∃ ds, (cs.take 82).map fewX = ds := ⟨_, rfl⟩
  obtain ⟨ms, hms⟩ : ∃ ms, ns.take 45 = ms := ⟨_, rfl⟩
  have D8 : ∀ x ∈ ds, ∀ z ∈ x.1, -128 ≤ z ∧ z ≤ 127 := fun x hx z hz => by
    rw [← hds] at hx
    obtain ⟨y, hy, rfl⟩ := few_mem hx
    exact H8 y hy z (List.mem_of_mem_take hz)
  have D32 : ∀ x ∈ ds, ∀ z ∈ x.2, -2147483648 ≤ z ∧ z ≤ 2147483647 := fun x hx z hz => by
    rw [← hds] at hx
    obtain ⟨y, hy, rfl⟩ := few_mem hx
    exact H32 y hy z (List.mem_of_mem_take hz)
  have DM : ∀ x ∈ ms, (-2147483648 ≤ x.getD 14 0 ∧ x.getD 14 0 ≤ 2147483647) ∧ (-2147483648 ≤ x.getD 15 0 ∧ x.getD 15 0 ≤ 2147483647) := fun x hx => HM x (by rw [← hms] at hx; exact List.mem_of_mem_take hx)
  have HC := Lib.hid hC
  have HN := Lib.hid hN
  have HMM := Lib.hid hM
  have HMO := Lib.hid hmo
  have HDS := Lib.hid hds
  have HMS := Lib.hid hms
  have HD8 := Lib.hid D8
  have HD32 := Lib.hid D32
  have HDM := Lib.hid DM
  clear hC hN hM hmo hds hms D8 D32 DM H8 H32 HM
  go_enter Try.func4, Try.ntmps4
  apply wp_seq_k; intro K1 hK1; have HK1 := Lib.hid hK1; clear hK1
  go_wp2
  refine HK1.out _ _ ?_; clear HK1
  generalize w.alloc (.cells #[.int .i64 a, .int .i64 b, .int .i64 c, .slice AU cs.length cU, .slice AV ns.length cV, .int .i64 o] 26) = W1 at *
  have HX := Lib.hid hX
  have HB := Lib.hid hB
  clear hX hB
  have p0 := (blk_cell HX.out 0).trans (show _ = some (Value.int .i64 a) from rfl)
  have p1 := (blk_cell HX.out 1).trans (show _ = some (Value.int .i64 b) from rfl)
  have p2 := (blk_cell HX.out 2).trans (show _ = some (Value.int .i64 c) from rfl)
  have p3 := (blk_cell HX.out 3).trans (show _ = some (Value.slice AU cs.length cU) from rfl)
  have p4 := (blk_cell HX.out 4).trans (show _ = some (Value.slice AV ns.length cV) from rfl)
  have p5 := (blk_cell HX.out 5).trans (show _ = some (Value.int .i64 o) from rfl)
  apply wp_seq_k; intro K1 hK1; have HK1 := Lib.hid hK1; clear hK1
  go_wp2_with (go_at_call 6; refine (few_is a b c o AU AV cU cV cs ds ns ms _ hcU hcV (Kd.C_below HC.out HB.out) (Kd.C_below HN.out HB.out) HDS.out HMS.out).mono ?_; rintro e W2 ⟨Au, cu, Av, cv, rfl, hu, hv, hB2⟩; have HU := Lib.hid hu; have HV := Lib.hid hv; have HB2 := Lib.hid hB2; have HX2 := Lib.hid (blk_below HX.out hB2); clear hu hv hB2; have q0 := (blk_cell HX2.out 0).trans (show _ = some (Value.int .i64 a) from rfl); have q1 := (blk_cell HX2.out 1).trans (show _ = some (Value.int .i64 b) from rfl); have q2 := (blk_cell HX2.out 2).trans (show _ = some (Value.int .i64 c) from rfl); have q3 := (blk_cell HX2.out 3).trans (show _ = some (Value.slice AU cs.length cU) from rfl); have q4 := (blk_cell HX2.out 4).trans (show _ = some (Value.slice AV ns.length cV) from rfl); have q5 := (blk_cell HX2.out 5).trans (show _ = some (Value.int .i64 o) from rfl); have f0 := blk_frozen HX2.out 0; have f1 := blk_frozen HX2.out 1; have f2 := blk_frozen HX2.out 2; have f3 := blk_frozen HX2.out 3; have f4 := blk_frozen HX2.out 4; have f5 := blk_frozen HX2.out 5)
  refine HK1.out _ _ ?_; clear HK1
  change Code.wp _ _ _ _ (W2.setCells w.heap.size 0 [.int .i64 a, .int .i64 b, .int .i64 c, .slice Au ds.length cu, .slice Av ms.length cv, .int .i64 o])
  have x3 := blk_puts (cs' := #[.int .i64 a, .int .i64 b, .int .i64 c, .slice Au ds.length cu, .slice Av ms.length cv, .int .i64 o]) HX2.out rfl
  have u3 := (Kd.R_reads' (R_sets (by decide) [.int .i64 a, .int .i64 b, .int .i64 c, .slice Au ds.length cu, .slice Av ms.length cv, .int .i64 o] 0 _ _ HU.out HX2.out)).2.2
  have v3 := (Kd.R_reads' (R_sets (by decide) [.int .i64 a, .int .i64 b, .int .i64 c, .slice Au ds.length cu, .slice Av ms.length cv, .int .i64 o] 0 _ _ HV.out HX2.out)).2.2
  have b3 : Below w.heap.size w (W2.setCells w.heap.size 0 [.int .i64 a, .int .i64 b, .int .i64 c, .slice Au ds.length cu, .slice Av ms.length cv, .int .i64 o]) := below_setsL _ 0 0 (below_step HB.out HB2.out) (Nat.le_refl _)
  clear p0 p1 p2 p3 p4 p5 q0 q1 q2 q3 q4 q5 f0 f1 f2 f3 f4 f5
  generalize W2.setCells w.heap.size 0 [.int .i64 a, .int .i64 b, .int .i64 c, .slice Au ds.length cu, .slice Av ms.length cv, .int .i64 o] = W3 at x3 u3 v3 b3 ⊢
  have HX3 := Lib.hid x3
  have HU3 := Lib.hid u3
  have HV3 := Lib.hid v3
  have HB3 := Lib.hid b3
  clear x3 u3 v3 b3 HX2 HU HV HB2 HX HB HC HN
  have p0 := (blk_cell HX3.out 0).trans (show _ = some (Value.int .i64 a) from rfl)
  have p1 := (blk_cell HX3.out 1).trans (show _ = some (Value.int .i64 b) from rfl)
  have p2 := (blk_cell HX3.out 2).trans (show _ = some (Value.int .i64 c) from rfl)
  have p3 := (blk_cell HX3.out 3).trans (show _ = some (Value.slice Au ds.length cu) from rfl)
  have p4 := (blk_cell HX3.out 4).trans (show _ = some (Value.slice Av ms.length cv) from rfl)
  have p5 := (blk_cell HX3.out 5).trans (show _ = some (Value.int .i64 o) from rfl)
  apply wp_seq_k; intro K1 hK1; have HK1 := Lib.hid hK1; clear hK1
  go_wp2_with (go_at_call 7; refine (write_is a b c o Au Av cu cv ds ms _ HU3.out HV3.out HD32.out HDM.out).mono ?_; rintro e W4 hq; obtain ⟨A, m, cc, k, rfl, hB4, hk⟩ := WQ_forms hq HD8.out HD32.out; have HB4 := Lib.hid hB4; have HK := Lib.hid hk; clear hq hB4 hk)
  refine HK1.out _ _ ?_; clear HK1
  clear p0 p1 p2 p3 p4 p5
  have HBW := Lib.hid (below_step HB3.out HB4.out)
  clear HB3 HB4 HX3 HU3 HV3
  rcases HK.out with hk | ⟨rfl, hg, hm, hR⟩
  · have hk1 : (k != 0) = true := by simpa using hk
    go_wp2_with (go_at_call 9; refine (lives_is _).mono ?_; rintro e W5 ⟨rfl, hB5⟩)
    go_ret
    exact ⟨rfl, below_step HBW.out hB5⟩
  · clear HK
    have h28 := gb_28 a b c o ds ms
    have hsm := few_small HDS.out hg
    obtain ⟨GB, hGB⟩ : ∃ GB, gb a b c o ds ms = GB := ⟨_, rfl⟩
    rw [hGB] at hm hR h28 hsm
    have HG := Lib.hid hg
    have HGB := Lib.hid hGB
    have HR := Lib.hid hR
    obtain ⟨g, cap, hgc, -, -, -⟩ := Kd.R_form hR (by omega)
    have hcl := (Kd.R_reads' hR).2.1
    clear hg hGB hR
    injection hgc with e1 e2 e3
    subst e1
    subst e3
    clear e2
    subst hm
    have d1 : decide ((GB.length : Int) < 28) = false := decide_eq_false (by omega)
    apply wp_seq_k; intro K1 hK1; have HK1 := Lib.hid hK1; clear hK1
    go_wp2
    refine HK1.out _ _ ?_; clear HK1
    apply wp_seq_k; intro K1 hK1; have HK1 := Lib.hid hK1; clear hK1
    go_wp2
    refine HK1.out _ _ ?_; clear HK1
    clear d1
    have PC := parse_cut HG.out (by rw [HGB.out]; omega)
    have PM := fun mo hmo hmn => parse_more HG.out mo hmo hmn
    have PG := parse_good HG.out (by rw [HGB.out]; omega)
    simp only [HGB.out, ZG] at PC PM PG
    have HPC := Lib.hid PC
    have HPM := Lib.hid PM
    have HPG := Lib.hid PG
    clear PC PM PG HG HGB HDS HMS HD8 HD32 HDM
    have hbw := HBW.out.size
    have hmL : n % GB.length < GB.length := Nat.mod_lt _ (by omega)
    have zc := cv37 n hn
    have zr := rem_nat n GB.length hn (by omega)
    obtain ⟨m, hm⟩ : ∃ m, n % GB.length = m := ⟨_, rfl⟩
    rw [hm] at hmL
    have hme : (n : Int) % (GB.length : Int) = (m : Int) := by rw [← hm]; simp
    clear zr
    have zs := fun W => sl_h (ad := ⟨g, 0, none⟩) (n := GB.length) (c := cc) (h := m) (by omega) W
    clear hm
    apply wp_seq_k; intro K1 hK1; have HK1 := Lib.hid hK1; clear hK1
    go_wp2_with (first | ((with_reducible refine gate_builtin (b := .append) (xs := #[.tmp 27, .tmp 34]) rfl ?_); at_builtin; refine Kd.R_append_rows (Kd.int .u8) (Rr := (Kd.int .u8).K (W4.alloc (.cells #[] 5))) (w0 := W4) W4.heap.size rfl (.tmp 27) (.tmp 34) 28 5 (.int .u8 0) 1 rfl Try.underlying28 info5 rfl (by decide) (by omega) (.slice (some ⟨W4.heap.size, 0, none⟩) 0 0) ([]) (GB.take m) (some ⟨g, 0, none⟩) (m) (cc) (fun _ => True) (fun _ => False) rfl rfl (R_fresh (k := .u8) (xs := []) (blk_new W4 (.cells #[] 5)) (Nat.le_refl _) (by decide)) (C_take (Kd.C_below (Kd.R_reads' HR.out).2.2 (below_alloc (Below.refl _ _) _)) (by omega)) (fun _ _ h => h) (fun _ hk => hk.elim) (fun _ _ => trivial) (below_alloc (Below.refl _ _) _) ((below_alloc (Below.refl _ _) _).size) (by simp; omega) ?_; intro v5 w5 ho hb hg hat; have HOw5 := Lib.hid ho; have HBw5 := Lib.hid hb; clear ho hb hg hat) | (go_at_call 10; refine (HPC.out m hmL v5 w5 W4.heap.size HOw5.out).mono ?_; rintro e w6 ⟨rfl, hB6⟩; have HB6 := Lib.hid hB6; clear hB6))
    refine HK1.out _ _ ?_; clear HK1
    have hB7 : Below W4.heap.size W4 (w6.alloc (.cells #[.int .i64 0, .int .i64 0, .int .i64 0, .slice none 0 0, .slice none 0 0, .int .i64 0] 26)) := below_alloc (below_step HBw5.out HB6.out) _
    have hCb := Kd.C_below (Kd.R_reads' HR.out).2.2 hB7
    have hBt := below_step HBW.out hB7
    have hMw := Kd.C_below HMM.out hBt
    generalize w6.alloc (.cells #[.int .i64 0, .int .i64 0, .int .i64 0, .slice none 0 0, .slice none 0 0, .int .i64 0] 26) = W7 at hB7 hCb hBt hMw ⊢
    generalize w6.heap.size = g6
    have HCb := Lib.hid hCb
    have HBt := Lib.hid hBt
    have HMw := Lib.hid hMw
    clear hB7 hCb hBt hMw HOw5 HBw5 HB6 HBW HR HMM zc zs hme HPC hmL
    by_cases q : 200 < more.length
    · have d1 : decide ((200 : Int) < (more.length : Int)) = true := decide_eq_true (by omega)
      obtain ⟨ma, rfl, -⟩ := HMw.out.2.2 (by omega)
      have zs := fun W => sl_h (ad := ma) (n := more.length) (c := cM) (h := 200) (by omega) W
      have hn7 := C_take HMw.out (k := 200) (by omega)
      have HN7 := Lib.hid hn7
      clear hn7
      apply wp_seq_k; intro K1 hK1; have HK1 := Lib.hid hK1; clear hK1
      go_wp2
      refine HK1.out _ _ ?_; clear HK1
      clear d1 zs
      apply wp_seq_k; intro K1 hK1; have HK1 := Lib.hid hK1; clear hK1
      go_wp2_with (first | ((with_reducible refine gate_builtin (b := .append) (xs := #[.tmp 45, .tmp 46]) rfl ?_); at_builtin; refine Kd.R_append_rows (Kd.int .u8) (Rr := (Kd.int .u8).K (W7.alloc (.cells #[] 5))) (w0 := W7) W7.heap.size rfl (.tmp 45) (.tmp 46) 28 5 (.int .u8 0) 1 rfl Try.underlying28 info5 rfl (by decide) (by omega) (.slice (some ⟨W7.heap.size, 0, none⟩) 0 0) ([]) (GB) (some ⟨g, 0, none⟩) (GB.length) (cc) (fun _ => True) (fun _ => False) rfl rfl (R_fresh (k := .u8) (xs := []) (blk_new W7 (.cells #[] 5)) (Nat.le_refl _) (by decide)) (Kd.C_below HCb.out (below_alloc (Below.refl _ _) _)) (fun _ _ h => h) (fun _ hk => hk.elim) (fun _ _ => trivial) (below_alloc (Below.refl _ _) _) ((below_alloc (Below.refl _ _) _).size) (by simp; omega) ?_; intro v8 w8 ho hb hg hat; have HOw8 := Lib.hid ho; have HBw8 := Lib.hid hb; clear ho hb hg hat) | ((with_reducible refine gate_builtin (b := .append) (xs := #[.tmp 47, .tmp 48]) rfl ?_); at_builtin; refine Kd.R_append_rows (Kd.int .u8) (Rr := (Kd.int .u8).K (w8)) (w0 := W7) W7.heap.size rfl (.tmp 47) (.tmp 48) 28 5 (.int .u8 0) 1 rfl Try.underlying28 info5 rfl (by decide) (by omega) (v8) (GB) (more.take 200) (some ma) (200) (cM) (fun _ => True) (fun _ => False) rfl rfl (HOw8.out) (Kd.C_below HN7.out HBw8.out) (fun _ _ h => h) (fun _ hk => hk.elim) (fun _ _ => trivial) (HBw8.out) (HBw8.out.size) (by omega) ?_; intro v9 w9 ho hb hg hat; have HOw9 := Lib.hid ho; have HBw9 := Lib.hid hb; clear ho hb hg hat) | (go_at_call 10; refine (HPM.out (more.take 200) (fun x hx => HMO.out x (List.mem_of_mem_take hx)) (fun e => by have := congrArg List.length e; rw [List.length_take, List.length_nil] at this; omega) (by rw [List.length_append, List.length_take]; omega) v9 w9 W7.heap.size HOw9.out).mono ?_; rintro e w10 ⟨rfl, hB10⟩; have HB10 := Lib.hid hB10; clear hB10))
      refine HK1.out _ _ ?_; clear HK1
      have hBf := below_step HBt.out (below_alloc (below_step HBw9.out HB10.out) (.cells #[.int .i64 0, .int .i64 0, .int .i64 0, .slice none 0 0, .slice none 0 0, .int .i64 0] 26))
      generalize w10.alloc (.cells #[.int .i64 0, .int .i64 0, .int .i64 0, .slice none 0 0, .slice none 0 0, .int .i64 0] 26) = W11 at hBf ⊢
      generalize w10.heap.size = g10
      have HBf := Lib.hid hBf
      clear hBf HOw8 HBw8 HOw9 HBw9 HB10 HBt HCb HN7
      apply wp_seq_k; intro K1 hK1; have HK1 := Lib.hid hK1; clear hK1
      go_wp2_with (go_at_call 9; refine (lives_is _).mono ?_; rintro e w11 ⟨rfl, hB11⟩)
      refine HK1.out _ _ ?_; clear HK1
      go_wp2
      go_ret
      exact ⟨rfl, below_step HBf.out hB11⟩
    · have d1 : decide ((200 : Int) < (more.length : Int)) = false := decide_eq_false (by omega)
      have HN7 := HMw
      apply wp_seq_k; intro K1 hK1; have HK1 := Lib.hid hK1; clear hK1
      go_wp2
      refine HK1.out _ _ ?_; clear HK1
      clear d1
      by_cases q2 : more = []
      · subst q2
        apply wp_seq_k; intro K1 hK1; have HK1 := Lib.hid hK1; clear hK1
        go_wp2_with (first | ((with_reducible refine gate_builtin (b := .append) (xs := #[.tmp 45, .tmp 46]) rfl ?_); at_builtin; refine Kd.R_append_rows (Kd.int .u8) (Rr := (Kd.int .u8).K (W7.alloc (.cells #[] 5))) (w0 := W7) W7.heap.size rfl (.tmp 45) (.tmp 46) 28 5 (.int .u8 0) 1 rfl Try.underlying28 info5 rfl (by decide) (by omega) (.slice (some ⟨W7.heap.size, 0, none⟩) 0 0) ([]) (GB) (some ⟨g, 0, none⟩) (GB.length) (cc) (fun _ => True) (fun _ => False) rfl rfl (R_fresh (k := .u8) (xs := []) (blk_new W7 (.cells #[] 5)) (Nat.le_refl _) (by decide)) (Kd.C_below HCb.out (below_alloc (Below.refl _ _) _)) (fun _ _ h => h) (fun _ hk => hk.elim) (fun _ _ => trivial) (below_alloc (Below.refl _ _) _) ((below_alloc (Below.refl _ _) _).size) (by simp; omega) ?_; intro v8 w8 ho hb hg hat; have HOw8 := Lib.hid ho; have HBw8 := Lib.hid hb; clear ho hb hg hat) | ((with_reducible refine gate_builtin (b := .append) (xs := #[.tmp 47, .tmp 48]) rfl ?_); at_builtin; refine Kd.R_append_rows (Kd.int .u8) (Rr := (Kd.int .u8).K (w8)) (w0 := W7) W7.heap.size rfl (.tmp 47) (.tmp 48) 28 5 (.int .u8 0) 1 rfl Try.underlying28 info5 rfl (by decide) (by omega) (v8) (GB) ([]) (AM) (0) (cM) (fun _ => True) (fun _ => False) rfl rfl (HOw8.out) (Kd.C_below HN7.out HBw8.out) (fun _ _ h => h) (fun _ hk => hk.elim) (fun _ _ => trivial) (HBw8.out) (HBw8.out.size) (by omega) ?_; intro v9 w9 ho hb hg hat; have HOw9 := Lib.hid ho; have HBw9 := Lib.hid hb; clear ho hb hg hat) | (go_at_call 10; refine (HPG.out v9 w9 W7.heap.size (by simpa using HOw9.out)).mono ?_; rintro e w10 ⟨hB10, u, v, rfl, hu, hv⟩; obtain ⟨Ax, nx, cx, rfl⟩ := R_slc hu; obtain ⟨Ay, ny, cy, rfl⟩ := R_slc hv; have HB10 := Lib.hid hB10; clear hB10 hu hv))
        refine HK1.out _ _ ?_; clear HK1
        have hBf := below_step HBt.out (below_alloc (below_step HBw9.out HB10.out) (.cells #[.int .i64 a, .int .i64 b, .int .i64 c, .slice Ax nx cx, .slice Ay ny cy, .int .i64 o] 26))
        generalize w10.alloc (.cells #[.int .i64 a, .int .i64 b, .int .i64 c, .slice Ax nx cx, .slice Ay ny cy, .int .i64 o] 26) = W11 at hBf ⊢
        generalize w10.heap.size = g10
        have HBf := Lib.hid hBf
        clear hBf HOw8 HBw8 HOw9 HBw9 HB10 HBt HCb HN7
        apply wp_seq_k; intro K1 hK1; have HK1 := Lib.hid hK1; clear hK1
        go_wp2_with (go_at_call 9; refine (lives_is _).mono ?_; rintro e w11 ⟨rfl, hB11⟩)
        refine HK1.out _ _ ?_; clear HK1
        go_wp2
        go_ret
        exact ⟨rfl, below_step HBf.out hB11⟩
      · have hpos : 0 < more.length := List.length_pos_iff.2 q2
        have d3 : decide ((0 : Int) < (more.length : Int)) = true := decide_eq_true (by omega)
        apply wp_seq_k; intro K1 hK1; have HK1 := Lib.hid hK1; clear hK1
        go_wp2_with (first | ((with_reducible refine gate_builtin (b := .append) (xs := #[.tmp 45, .tmp 46]) rfl ?_); at_builtin; refine Kd.R_append_rows (Kd.int .u8) (Rr := (Kd.int .u8).K (W7.alloc (.cells #[] 5))) (w0 := W7) W7.heap.size rfl (.tmp 45) (.tmp 46) 28 5 (.int .u8 0) 1 rfl Try.underlying28 info5 rfl (by decide) (by omega) (.slice (some ⟨W7.heap.size, 0, none⟩) 0 0) ([]) (GB) (some ⟨g, 0, none⟩) (GB.length) (cc) (fun _ => True) (fun _ => False) rfl rfl (R_fresh (k := .u8) (xs := []) (blk_new W7 (.cells #[] 5)) (Nat.le_refl _) (by decide)) (Kd.C_below HCb.out (below_alloc (Below.refl _ _) _)) (fun _ _ h => h) (fun _ hk => hk.elim) (fun _ _ => trivial) (below_alloc (Below.refl _ _) _) ((below_alloc (Below.refl _ _) _).size) (by simp; omega) ?_; intro v8 w8 ho hb hg hat; have HOw8 := Lib.hid ho; have HBw8 := Lib.hid hb; clear ho hb hg hat) | ((with_reducible refine gate_builtin (b := .append) (xs := #[.tmp 47, .tmp 48]) rfl ?_); at_builtin; refine Kd.R_append_rows (Kd.int .u8) (Rr := (Kd.int .u8).K (w8)) (w0 := W7) W7.heap.size rfl (.tmp 47) (.tmp 48) 28 5 (.int .u8 0) 1 rfl Try.underlying28 info5 rfl (by decide) (by omega) (v8) (GB) (more) (AM) (more.length) (cM) (fun _ => True) (fun _ => False) rfl rfl (HOw8.out) (Kd.C_below HN7.out HBw8.out) (fun _ _ h => h) (fun _ hk => hk.elim) (fun _ _ => trivial) (HBw8.out) (HBw8.out.size) (by omega) ?_; intro v9 w9 ho hb hg hat; have HOw9 := Lib.hid ho; have HBw9 := Lib.hid hb; clear ho hb hg hat) | (go_at_call 10; refine (HPM.out (more) HMO.out q2 (by rw [List.length_append]; omega) v9 w9 W7.heap.size HOw9.out).mono ?_; rintro e w10 ⟨rfl, hB10⟩; have HB10 := Lib.hid hB10; clear hB10))
        refine HK1.out _ _ ?_; clear HK1
        have hBf := below_step HBt.out (below_alloc (below_step HBw9.out HB10.out) (.cells #[.int .i64 0, .int .i64 0, .int .i64 0, .slice none 0 0, .slice none 0 0, .int .i64 0] 26))
        generalize w10.alloc (.cells #[.int .i64 0, .int .i64 0, .int .i64 0, .slice none 0 0, .slice none 0 0, .int .i64 0] 26) = W11 at hBf ⊢
        generalize w10.heap.size = g10
        have HBf := Lib.hid hBf
        clear hBf HOw8 HBw8 HOw9 HBw9 HB10 HBt HCb HN7
        apply wp_seq_k; intro K1 hK1; have HK1 := Lib.hid hK1; clear hK1
        go_wp2_with (go_at_call 9; refine (lives_is _).mono ?_; rintro e w11 ⟨rfl, hB11⟩)
        refine HK1.out _ _ ?_; clear HK1
        go_wp2
        go_ret
        exact ⟨rfl, below_step HBf.out hB11⟩
end Go.Proofs.Ytieoklpgnmbpjaa.Gr
