/- A network is cut to some size: a case. -/
import Derived.Test.YtieoklpgnmbpjaaE25
namespace Go.Proofs.Ytieoklpgnmbpjaa.Gr
open Go.RowKit Dr
open Go.Proofs.YtieoklpgnmbpjaaW.PrintWords (Kd Kd.C Kd.R Kd.M_step Kd.C_below Kd.C_get Kd.R_below Kd.R_reads Kd.R_reads' Kd.R_types Kd.R_step Kd.R_alloc Kd.R_drew Kd.R_lower add_field Kd.R_append Kd.R_bound Kd.R_move Kd.R_mono Kd.R_nil Kd.R_set Kd.R_ne Kd.R_over' Kd.R_typed Kd.C_nil Kd.R_slice Kd.R_append_rows Kd.R_form ReadsRow Kd.C_string Kd.R_append_rows_step)
set_option linter.unusedVariables false
set_option linter.unusedSimpArgs false
set_option maxRecDepth 100000
set_option maxHeartbeats 64000000 in
theorem few_d (a b c o : Int) (AU AV : Option Addr) (cU cV : Nat) (cs : List (List Int × List Int)) (ns : List (List Int)) (w : World) (hcU : cs.length ≤ cU) (hcV : ns.length ≤ cV) (hC : kCo.C w AU cs.length cs) (hN : kNd.C w AV ns.length ns) (hn : 45 < ns.length) (hm : 82 < cs.length) :
    Calls Try.prog 6 #[.agg #[.int .i64 a, .int .i64 b, .int .i64 c, .slice AU cs.length cU, .slice AV ns.length cV, .int .i64 o]] w fun e w' => ∃ u v, e = .returned (.agg #[.int .i64 a, .int .i64 b, .int .i64 c, u, v, .int .i64 o]) ∧ kCo.R 42 w' w.heap.size (fun _ => True) u ((cs.take 82).map fewX) ∧ kNd.R 55 w' w.heap.size (fun _ => True) v (ns.take 45) ∧ Below w.heap.size w w' := by
  have hx0 := blk_alloc (blk_new w (.cells #[.int .i64 a, .int .i64 b, .int .i64 c, .slice AU cs.length cU, .slice AV ns.length cV, .int .i64 o] 26)) (.cells #[.int .i64 0, .int .i64 0, .int .i64 0, .slice none 0 0, .slice none 0 0, .int .i64 0] 26)
  have hx1 := blk_new (w.alloc (.cells #[.int .i64 a, .int .i64 b, .int .i64 c, .slice AU cs.length cU, .slice AV ns.length cV, .int .i64 o] 26)) (.cells #[.int .i64 0, .int .i64 0, .int .i64 0, .slice none 0 0, .slice none 0 0, .int .i64 0] 26)
  have hs2 : (w.alloc (.cells #[.int .i64 a, .int .i64 b, .int .i64 c, .slice AU cs.length cU, .slice AV ns.length cV, .int .i64 o] 26)).heap.size = w.heap.size + 1 := by simp
  rw [hs2] at hx1
  have hB := below_alloc (below_alloc (Below.refl w.heap.size w) (.cells #[.int .i64 a, .int .i64 b, .int .i64 c, .slice AU cs.length cU, .slice AV ns.length cV, .int .i64 o] 26)) (.cells #[.int .i64 0, .int .i64 0, .int .i64 0, .slice none 0 0, .slice none 0 0, .int .i64 0] 26)
  obtain ⟨NS, hNS⟩ : ∃ NS, ns.take 45 = NS := ⟨_, rfl⟩
  obtain ⟨CS, hCS⟩ : ∃ CS, cs.take 82 = CS := ⟨_, rfl⟩
  have hlN : NS.length = 45 := by rw [← hNS, List.length_take]; omega
  obtain ⟨aV, hAV, -⟩ := hN.2.2 (by omega)
  subst hAV
  have hN2 : kNd.C w (some aV) NS.length NS := by rw [← hNS]; have := C_take hN (k := 45) (by omega); rwa [show (ns.take 45).length = 45 by rw [hNS]; exact hlN]
  have hlC : CS.length = 82 := by rw [← hCS, List.length_take]; omega
  obtain ⟨aU, hAU, -⟩ := hC.2.2 (by omega)
  subst hAU
  have hC2 : kCo.C w (some aU) CS.length CS := by rw [← hCS]; have := C_take hC (k := 82) (by omega); rwa [show (cs.take 82).length = 82 by rw [hCS]; exact hlC]
  have hCl : CS.length ≤ 82 := by omega
  have hNl : NS.length ≤ 45 := by omega
  have HC2 := Lib.hid hC2
  have HN2 := Lib.hid hN2
  have HNS := Lib.hid hNS
  have HCS := Lib.hid hCS
  have HLN := Lib.hid hlN
  have HLC := Lib.hid hlC
  clear hC hN hC2 hN2 hNS hCS hlN hlC hs2
  go_enter Try.func6, Try.ntmps6
  apply wp_seq_k; intro K1 hK1; have HK1 := Lib.hid hK1; clear hK1
  go_wp2
  refine HK1.out _ _ ?_; clear HK1
  generalize (w.alloc (.cells #[.int .i64 a, .int .i64 b, .int .i64 c, .slice (some aU) cs.length cU, .slice (some aV) ns.length cV, .int .i64 o] 26)).alloc (.cells #[.int .i64 0, .int .i64 0, .int .i64 0, .slice none 0 0, .slice none 0 0, .int .i64 0] 26) = W1 at *
  have c4 := (blk_cell hx0 4).trans (show _ = some (Value.slice (some aV) ns.length cV) from rfl)
  have f4 := blk_frozen hx0 4
  have c3 := (blk_cell hx0 3).trans (show _ = some (Value.slice (some aU) cs.length cU) from rfl)
  have f3 := blk_frozen hx0 3
  have HX0 := Lib.hid hx0
  have HX1 := Lib.hid hx1
  have HB := Lib.hid hB
  clear hx0 hx1 hB
  have d1 : decide ((45 : Int) < (ns.length : Int)) = true := decide_eq_true (by omega)
  have z1 := fun W => slh24 (ad := aV) (n := ns.length) (c := cV) 45 (by omega) W
  apply wp_seq_k; intro K1 hK1; have HK1 := Lib.hid hK1; clear hK1
  go_wp2
  refine HK1.out _ _ ?_; clear HK1
  have hx0 : (W1.setCell ⟨w.heap.size, 4, none⟩ (.slice (some aV) 45 cV)).heap[w.heap.size]? = some (.cells #[.int .i64 a, .int .i64 b, .int .i64 c, .slice (some aU) cs.length cU, .slice (some aV) NS.length cV, .int .i64 o] 26 (0, 0)) := by rw [HLN.out]; exact blk_put HX0.out 4 _ rfl
  have hx1 : (W1.setCell ⟨w.heap.size, 4, none⟩ (.slice (some aV) 45 cV)).heap[w.heap.size + 1]? = some (.cells #[.int .i64 0, .int .i64 0, .int .i64 0, .slice none 0 0, .slice none 0 0, .int .i64 0] 26 (0, 0)) := (Below.heap_setCell _ _ _ _ (by show w.heap.size + 1 ≠ w.heap.size; omega)).trans HX1.out
  have hB : Below w.heap.size w (W1.setCell ⟨w.heap.size, 4, none⟩ (.slice (some aV) 45 cV)) := HB.out.setCell (Nat.le_refl _) _
  generalize W1.setCell ⟨w.heap.size, 4, none⟩ (.slice (some aV) 45 cV) = W2 at *
  clear c4 f4 c3 f3 d1 HX0 HX1 HB z1
  have c3 := (blk_cell hx0 3).trans (show _ = some (Value.slice (some aU) cs.length cU) from rfl)
  have f3 := blk_frozen hx0 3
  have HX0 := Lib.hid hx0
  have HX1 := Lib.hid hx1
  have HB := Lib.hid hB
  clear hx0 hx1 hB
  have d1 : decide ((82 : Int) < (cs.length : Int)) = true := decide_eq_true (by omega)
  have z1 := fun W => slh23 (ad := aU) (n := cs.length) (c := cU) 82 (by omega) W
  apply wp_seq_k; intro K1 hK1; have HK1 := Lib.hid hK1; clear hK1
  go_wp2
  refine HK1.out _ _ ?_; clear HK1
  have hx0 : (W2.setCell ⟨w.heap.size, 3, none⟩ (.slice (some aU) 82 cU)).heap[w.heap.size]? = some (.cells #[.int .i64 a, .int .i64 b, .int .i64 c, .slice (some aU) CS.length cU, .slice (some aV) NS.length cV, .int .i64 o] 26 (0, 0)) := by rw [HLC.out]; exact blk_put HX0.out 3 _ rfl
  have hx1 : (W2.setCell ⟨w.heap.size, 3, none⟩ (.slice (some aU) 82 cU)).heap[w.heap.size + 1]? = some (.cells #[.int .i64 0, .int .i64 0, .int .i64 0, .slice none 0 0, .slice none 0 0, .int .i64 0] 26 (0, 0)) := (Below.heap_setCell _ _ _ _ (by show w.heap.size + 1 ≠ w.heap.size; omega)).trans HX1.out
  have hB : Below w.heap.size w (W2.setCell ⟨w.heap.size, 3, none⟩ (.slice (some aU) 82 cU)) := HB.out.setCell (Nat.le_refl _) _
  generalize W2.setCell ⟨w.heap.size, 3, none⟩ (.slice (some aU) 82 cU) = W3 at *
  clear c3 f3 d1 HX0 HX1 HB z1
  apply wp_seq_k; intro K1 hK1; have HK1 := Lib.hid hK1; clear hK1
  go_wp2
  refine HK1.out _ _ ?_; clear HK1
  have hsz : w.heap.size + 2 ≤ W3.heap.size := by have := blk_lt hx1; omega
  have hF : FS w #[.int .i64 a, .int .i64 b, .int .i64 c, .slice (some aU) CS.length cU, .slice (some aV) NS.length cV, .int .i64 o] (W3.alloc (.cells #[] 42)) (.slice (some ⟨W3.heap.size, 0, none⟩) 0 0) [] := ⟨below_alloc hB _, blk_alloc hx0 _, blk_alloc hx1 _, R_empty (blk_new _ _) hsz reps_nil⟩
  generalize W3.alloc (.cells #[] 42) = W4 at *
  generalize Value.slice (some ⟨W3.heap.size, 0, none⟩) 0 0 = l0 at *
  have HF := Lib.hid hF
  clear hF hx0 hx1 hB hsz
  apply wp_seq_k; intro K1 hK1; have HK1 := Lib.hid hK1; clear hK1
  go_wp2
  refine wp_loopS [3, 4, 5, 23, 24, 25, 26, 27, 28, 29, 30, 31, 32, 33, 34, 35, 36, 37, 38, 39, 40, 41, 42, 43, 44, 45, 46, 47, 48, 49, 50, 51, 52, 53, 54, 55, 56, 57, 58, 59, 60, 61, 62] (fun sl W => ∃ i : Nat, sl 4 = .int .i64 (i : Int) ∧ i ≤ CS.length ∧ ∃ l, sl 3 = l ∧ FS w #[.int .i64 a, .int .i64 b, .int .i64 c, .slice (some aU) CS.length cU, .slice (some aV) NS.length cV, .int .i64 o] W l ((CS.take i).map fewX)) (fun sl W => Msr (CS.length : Int) (sl 4)) ⟨0, rfl, Nat.zero_le _, _, rfl, HF.out⟩ ?_
  intro vs5 W5 a5 hb5' hI
  obtain ⟨i, hsl, hi, l, hv0, hS⟩ := hI
  simp only [setSlots, Act.put, List.setIfInBounds_toArray, List.set_cons_succ, List.set_cons_zero] at hb5'
  subst hb5'
  replace hsl : vs5 4 = .int .i64 (i : Int) := hsl
  replace hv0 : vs5 3 = l := hv0
  rw [hsl, hv0]
  clear hsl hv0
  have HS := Lib.hid hS
  clear hS
  by_cases hil : i < CS.length
  rotate_left
  · have hd : decide ((i : Int) < (CS.length : Int)) = false := decide_eq_false (by omega)
    obtain rfl : i = CS.length := by omega
    rw [List.take_length] at HS
    have c3 := (blk_cell HS.out.gx 3).trans (show _ = some (Value.slice (some aU) CS.length cU) from rfl)
    go_wp2
    clear c3
    refine HK1.out _ _ ?_; clear HK1
    obtain ⟨Al, nl, cl, rfl⟩ := R_slc HS.out.r
    have hgx := blk_alloc HS.out.gx (.cells #[] 55)
    have hres := blk_alloc HS.out.res (.cells #[] 55)
    have hE := R_empty (d := kNd) (base := W5.heap.size) (blk_new W5 (.cells #[] 55)) (Nat.le_refl _) reps_nil
    have hl5 := Kd.R_alloc HS.out.r (.cells #[] 55)
    have hB5 := below_alloc HS.out.bel (.cells #[] 55)
    have HN5 := Lib.hid (Kd.C_below HN2.out hB5)
    have HGX := Lib.hid hgx
    have HRES := Lib.hid hres
    have HE := Lib.hid hE
    have HL5 := Lib.hid hl5
    have HB5 := Lib.hid hB5
    have hs5 : w.heap.size + 2 ≤ W5.heap.size := HS.out.size
    clear hgx hres hE hl5 hB5
    have c4 : (W5.alloc (.cells #[] 55)).cell? ⟨w.heap.size, 4, none⟩ = some (Value.slice (some aV) NS.length cV) := (blk_cell HGX.out 4).trans (show _ = some (Value.slice (some aV) NS.length cV) from rfl)
    apply wp_seq_k; intro K1 hK1; have HK1 := Lib.hid hK1; clear hK1
    go_wp2_with ((with_reducible refine gate_builtin (b := .append) (xs := #[.tmp 64, .tmp 66]) rfl ?_); at_builtin; refine Kd.R_append_rows kNd (Rr := kNd.K (W5.alloc (.cells #[] 55))) (w0 := w) w.heap.size rfl (.tmp 64) (.tmp 66) 24 55 (.agg (nrow []).toArray) 200 rfl Try.underlying24 info55 rfl (by decide) (by omega) (.slice (some ⟨W5.heap.size, 0, none⟩) 0 0) [] NS (some aV) NS.length cV (fun _ => True) (fun _ => False) rfl rfl (Kd.R_lower HE.out (by omega)) HN5.out (fun _ _ h => h) (fun _ hk => hk.elim) (fun _ _ => trivial) HB5.out HB5.out.size (by simp; omega) ?_; intro v9 w3 ho3 hb3 hg3 hat3; obtain ⟨A9, n9, c9, rfl⟩ := R_slc ho3; have HR3 := Lib.hid ho3; have HB3 := Lib.hid hb3; have hk3 := (hg3.block _ (blk_lt HGX.out) (Kd.R_ne HE.out HGX.out (by decide))).trans HGX.out; have hk4 := (hg3.block _ (blk_lt HRES.out) (Kd.R_ne HE.out HRES.out (by decide))).trans HRES.out; have HL3 := Lib.hid (Kd.R_over' HL5.out (Kd.R_typed HE.out) (by decide) hg3); have HK3 := Lib.hid hk3; have HK4 := Lib.hid hk4; have q3 := (blk_cell hk3 3).trans (show _ = some (Value.slice (some aU) CS.length cU) from rfl); have f3 := blk_frozen hk3 3; have q4 := (blk_cell hk3 4).trans (show _ = some (Value.slice (some aV) NS.length cV) from rfl); have f4 := blk_frozen hk3 4; clear ho3 hb3 hg3 hat3 hk3 hk4 c4)
    refine HK1.out _ _ ?_; clear HK1
    clear q3 f3 q4 f4
    have X0 : ((w3.setCell ⟨w.heap.size, 3, none⟩ (.slice Al nl cl)).setCell ⟨w.heap.size, 4, none⟩ (.slice A9 n9 c9)).heap[w.heap.size]? = some (.cells #[.int .i64 a, .int .i64 b, .int .i64 c, .slice Al nl cl, .slice A9 n9 c9, .int .i64 o] 26 (0, 0)) := blk_put (blk_put HK3.out 3 _ rfl) 4 _ rfl
    have X1 : ((w3.setCell ⟨w.heap.size, 3, none⟩ (.slice Al nl cl)).setCell ⟨w.heap.size, 4, none⟩ (.slice A9 n9 c9)).heap[w.heap.size + 1]? = some (.cells #[.int .i64 0, .int .i64 0, .int .i64 0, .slice none 0 0, .slice none 0 0, .int .i64 0] 26 (0, 0)) := (Below.heap_setCell _ _ _ _ (by show w.heap.size + 1 ≠ w.heap.size; omega)).trans ((Below.heap_setCell _ _ _ _ (by show w.heap.size + 1 ≠ w.heap.size; omega)).trans HK4.out)
    have XB : Below w.heap.size w ((w3.setCell ⟨w.heap.size, 3, none⟩ (.slice Al nl cl)).setCell ⟨w.heap.size, 4, none⟩ (.slice A9 n9 c9)) := (HB3.out.setCell (Nat.le_refl _) _).setCell (Nat.le_refl _) _
    have XL : kCo.R 42 ((w3.setCell ⟨w.heap.size, 3, none⟩ (.slice Al nl cl)).setCell ⟨w.heap.size, 4, none⟩ (.slice A9 n9 c9)) w.heap.size (fun _ => True) (.slice Al nl cl) (CS.map fewX) := Kd.R_lower (Kd.R_set (Kd.R_set HL3.out HK3.out (by decide) 3 _) (blk_put HK3.out 3 _ rfl) (by decide) 4 _) (by omega)
    have XN : kNd.R 55 ((w3.setCell ⟨w.heap.size, 3, none⟩ (.slice Al nl cl)).setCell ⟨w.heap.size, 4, none⟩ (.slice A9 n9 c9)) w.heap.size (fun _ => True) (.slice A9 n9 c9) NS := Kd.R_set (Kd.R_set HR3.out HK3.out (by decide) 3 _) (blk_put HK3.out 3 _ rfl) (by decide) 4 _
    generalize ((w3.setCell ⟨w.heap.size, 3, none⟩ (.slice Al nl cl)).setCell ⟨w.heap.size, 4, none⟩ (.slice A9 n9 c9)) = W6 at *
    have Y0 := Lib.hid X0
    have Y1 := Lib.hid X1
    have YB := Lib.hid XB
    have YL := Lib.hid XL
    have YN := Lib.hid XN
    have hcs : cs.take CS.length = CS := by first | (rw [HLC.out]; exact HCS.out) | (rw [HLC.out, List.take_length, ← HCS.out, List.take_of_length_le hm])
    have hns : ns.take NS.length = NS := by first | (rw [HLN.out]; exact HNS.out) | (rw [HLN.out, List.take_length, ← HNS.out, List.take_of_length_le hn])
    have HCL := Lib.hid hcs
    have HNL := Lib.hid hns
    clear X0 X1 XB XL XN hcs hns HK3 HK4 HB3 HL3 HR3 HN5 HGX HRES HE HL5 HB5 HS hs5 hd hi hil
    have g0 := (blk_cell Y0.out 0).trans (show _ = some (Value.int .i64 a) from rfl)
    have g1 := (blk_cell Y0.out 1).trans (show _ = some (Value.int .i64 b) from rfl)
    have g2 := (blk_cell Y0.out 2).trans (show _ = some (Value.int .i64 c) from rfl)
    have g3 := (blk_cell Y0.out 3).trans (show _ = some (Value.slice Al nl cl) from rfl)
    have g4 := (blk_cell Y0.out 4).trans (show _ = some (Value.slice A9 n9 c9) from rfl)
    have g5 := (blk_cell Y0.out 5).trans (show _ = some (Value.int .i64 o) from rfl)
    have z0 := (blk_cell Y1.out 0).trans (show _ = some (Value.int .i64 0) from rfl)
    have z1 := (blk_cell Y1.out 1).trans (show _ = some (Value.int .i64 0) from rfl)
    have z2 := (blk_cell Y1.out 2).trans (show _ = some (Value.int .i64 0) from rfl)
    have z3 := (blk_cell Y1.out 3).trans (show _ = some (Value.slice none 0 0) from rfl)
    have z4 := (blk_cell Y1.out 4).trans (show _ = some (Value.slice none 0 0) from rfl)
    have z5 := (blk_cell Y1.out 5).trans (show _ = some (Value.int .i64 0) from rfl)
    have f0 := blk_frozen Y1.out 0
    have f1 := blk_frozen Y1.out 1
    have f2 := blk_frozen Y1.out 2
    have f3 := blk_frozen Y1.out 3
    have f4 := blk_frozen Y1.out 4
    have f5 := blk_frozen Y1.out 5
    apply wp_seq_k; intro K1 hK1; have HK1 := Lib.hid hK1; clear hK1
    go_wp2
    refine HK1.out _ _ ?_; clear HK1
    clear g0 z0 f0 g1 z1 f1 g2 z2 f2 g3 z3 f3 g4 z4 f4 g5 z5 f5
    go_wp2
    change bodyPost _ _ _ _ _ (W6.setCells (w.heap.size + 1) 0 [.int .i64 a, .int .i64 b, .int .i64 c, .slice Al nl cl, .slice A9 n9 c9, .int .i64 o])
    have X1 := blk_puts (cs' := #[.int .i64 a, .int .i64 b, .int .i64 c, .slice Al nl cl, .slice A9 n9 c9, .int .i64 o]) Y1.out rfl
    have XL := R_sets (by decide) [.int .i64 a, .int .i64 b, .int .i64 c, .slice Al nl cl, .slice A9 n9 c9, .int .i64 o] 0 _ _ YL.out Y1.out
    have XN := R_sets (by decide) [.int .i64 a, .int .i64 b, .int .i64 c, .slice Al nl cl, .slice A9 n9 c9, .int .i64 o] 0 _ _ YN.out Y1.out
    have XB : Below w.heap.size w (W6.setCells (w.heap.size + 1) 0 [.int .i64 a, .int .i64 b, .int .i64 c, .slice Al nl cl, .slice A9 n9 c9, .int .i64 o]) := below_setsL _ 0 0 YB.out (by omega)
    refine bodyPost_ret (results_c rfl _ _ (w.heap.size + 1) 26 #[.int .i64 a, .int .i64 b, .int .i64 c, .slice Al nl cl, .slice A9 n9 c9, .int .i64 o] (0, 0) _ rfl X1 Try.underlying26 rfl (by kernel_rfl)) rfl ?_
    refine ⟨_, _, rfl, ?_, ?_, XB⟩
    · first | (rw [HCS.out]; exact XL) | (rw [HCL.out]; exact XL)
    · first | (rw [HNS.out]; exact XN) | (rw [HNL.out]; exact XN)
  · have hd : decide ((i : Int) < (CS.length : Int)) = true := decide_eq_true (by omega)
    have hinc : IntKind.i64.wrap ((i : Int) + 1) = (i : Int) + 1 := IntWalk.i64_in _ (by omega)
    obtain ⟨x, hx⟩ : ∃ x, CS[i]? = some x := ⟨_, List.getElem?_eq_getElem hil⟩
    have hBw := HS.out.bel
    obtain ⟨ad, A1, c1, A2, c2, hAd, hcell, hc1, hc2, hA1, hA2⟩ := co_get (Kd.C_below HC2.out hBw) hx
    obtain rfl := Option.some.inj hAd
    have HCE := Lib.hid hcell
    have HA1 := Lib.hid hA1
    have HA2 := Lib.hid hA2
    clear hcell hA1 hA2 hBw
    have c3 := (blk_cell HS.out.gx 3).trans (show _ = some (Value.slice (some aU) CS.length cU) from rfl)
    apply wp_seq_k; intro K2 hK2; have HK2 := Lib.hid hK2; clear hK2
    go_wp2
    clear c3
    refine HK2.out _ _ ?_; clear HK2
    apply wp_seq_k; intro K8 hK8; have HK8 := Lib.hid hK8; clear hK8
    apply wp_block
    apply wp_seq_k; intro K3 hK3; have HK3 := Lib.hid hK3; clear hK3
    refine wp_listed (R := fun W W' => Below W.heap.size W W') 6 [.val (.pointer (some ⟨w.heap.size, 3, none⟩)), .val (.slice (some aU) CS.length cU), .val (.int .i64 (i : Int)), .val (.pointer (some (aU.add (i * 2)))), .val (.agg #[.slice A1 x.1.length c1, .slice A2 x.2.length c2]), newSpec (.cells #[.slice none 0 0, .slice none 0 0] 42 (0, 0)) W5.heap.size] (fun W => Below W5.heap.size W5 W) (by kernel_rfl) (Below.refl _ _) ?_ ?_
    · intro vs W hG a1 ha1
      have e1 : a1.eval (.tmp 1) = .pointer (some ⟨w.heap.size, 0, none⟩) := eo ha1 (by kernel_rfl)
      have e4 : a1.eval (.tmp 4) = .int .i64 (i : Int) := eo ha1 (by kernel_rfl)
      have i30 := ei (d := 30) ha1 0 (by kernel_rfl) rfl rfl (by simp)
      have i31 := ei (d := 31) ha1 1 (by kernel_rfl) rfl rfl (by simp)
      have i32 := ei (d := 32) ha1 2 (by kernel_rfl) rfl rfl (by simp)
      have i33 := ei (d := 33) ha1 3 (by kernel_rfl) rfl rfl (by simp)
      clear ha1
      refine And.intro ?_ (And.intro ?_ (And.intro ?_ (And.intro ?_ (And.intro ?_ (And.intro ?_ (trivial))))))
      · intro hp K hK
        refine g_no rfl ?_
        exact st_field rfl (e1) (by kernel_rfl) (hK _ _ rfl hG (Below.refl _ _))
      · intro hp K hK
        refine g_no rfl ?_
        have e30 : a1.eval (.tmp 30) = _ := i30.trans (hp 0 (by kernel_rfl))
        exact st_load rfl (e30) (ld_cell 23 (by kernel_rfl) ((blk_cell (blk_below HS.out.gx hG) 3).trans rfl)) (hK _ _ rfl hG (Below.refl _ _))
      · intro hp K hK
        refine g_no rfl ?_
        exact st_move (.inl rfl) (e4) (hK _ _ rfl hG (Below.refl _ _))
      · intro hp K hK
        refine g_no rfl ?_
        have e31 : a1.eval (.tmp 31) = _ := i31.trans (hp 1 (by kernel_rfl))
        have e32 : a1.eval (.tmp 32) = _ := i32.trans (hp 2 (by kernel_rfl))
        exact st_index rfl (e31) (e32) (ix23 aU CS.length cU i hil _) (hK _ _ rfl hG (Below.refl _ _))
      · intro hp K hK
        refine g_no rfl ?_
        have e33 : a1.eval (.tmp 33) = _ := i33.trans (hp 3 (by kernel_rfl))
        exact st_load rfl (e33) (ld42 HCE.out hG) (hK _ _ rfl hG (Below.refl _ _))
      · intro hp K hK
        refine g_no rfl ?_
        exact st_alloc rfl (by kernel_rfl) (hK _ _ ⟨_, rfl, blk_new _ _, hG.size⟩ (hG.alloc hG.size _) (below_alloc (Below.refl _ _) _))
    intro vs W hG hp a1 ha1
    have q4 : vs 4 = _ := hp 4 (by decide)
    have q5 : ∃ gg, (vs 5) = .pointer (some ⟨gg, 0, none⟩) ∧ W.heap[gg]? = some (.cells #[.slice none 0 0, .slice none 0 0] 42 (0, 0)) ∧ W5.heap.size ≤ gg := hp 5 (by decide)
    clear hp
    simp only [fill, Act.put, List.append_eq, List.cons_append, List.nil_append, List.take_succ_cons, List.take_zero, List.setIfInBounds_toArray, List.set_cons_succ, List.set_cons_zero, Nat.reduceAdd, Nat.zero_add, q4] at ha1
    subst ha1
    simp only [List.append_eq, List.cons_append, List.nil_append, List.drop_succ_cons, List.drop_zero]
    clear q4
    obtain ⟨gy, hv, Agy, hgy⟩ := q5
    rw [hv]
    clear hv
    refine wpList_store_mid rfl 42 (.tmp 5) (.tmp 34) rfl gy 0 #[.slice A1 x.1.length c1, .slice A2 x.2.length c2] (by kernel_rfl) (by kernel_rfl) (by have h := blk_there Agy; exact h) (by kernel_rfl) (by kernel_rfl) ?_
    have hX1 := blk_puts (cs' := #[.slice A1 x.1.length c1, .slice A2 x.2.length c2]) Agy rfl
    have hBV : Below W5.heap.size W5 (W.setCells gy 0 #[.slice A1 x.1.length c1, .slice A2 x.2.length c2].toList) := below_setsL _ 0 0 hG hgy
    clear Agy hG
    generalize W.setCells gy 0 #[.slice A1 x.1.length c1, .slice A2 x.2.length c2].toList = V at hX1 hBV ⊢
    clear W
    have hX := Lib.hid hX1
    have HBV := Lib.hid hBV
    clear hX1 hBV
    refine wpList_nil ?_
    simp only [Act.put]
    refine HK3.out _ _ ?_; clear HK3
    have HXI := Lib.hid hx
    have hlx := HA1.out.2.1
    have hly := HA2.out.2.1
    clear HCE hx
    have q0 := (blk_cell hX.out 0).trans (show _ = some (Value.slice A1 x.1.length c1) from rfl)
    have f0 := blk_frozen hX.out 0
    by_cases h1 : 200 < x.1.length
    · have d1 : decide ((200 : Int) < (x.1.length : Int)) = true := decide_eq_true (by omega)
      obtain ⟨a1, rfl, -⟩ := HA1.out.2.2 (by omega)
      have z1 := fun W => slh39 (ad := a1) (n := x.1.length) (c := c1) 200 (by omega) W
      have hk1 := C_take HA1.out (k := 200) (by omega)
      have HM1 := Lib.hid hk1
      clear hk1
      apply wp_seq_k; intro K3 hK3; have HK3 := Lib.hid hK3; clear hK3
      go_wp2
      refine HK3.out _ _ ?_; clear HK3
      have X0 : (V.setCell ⟨gy, 0, none⟩ (.slice (some a1) 200 c1)).heap[gy]? = some (.cells #[.slice (some a1) 200 c1, .slice A2 x.2.length c2] 42 (0, 0)) := blk_put hX.out 0 _ rfl
      have XB := HBV.out.setCell hgy (.slice (some a1) 200 c1) (p := ⟨gy, 0, none⟩)
      generalize (V.setCell ⟨gy, 0, none⟩ (.slice (some a1) 200 c1)) = V1 at X0 XB ⊢
      clear q0 f0 d1 hX HBV z1
      have HX1 := Lib.hid X0
      have HB1 := Lib.hid XB
      clear X0 XB
      have q0 := (blk_cell HX1.out 1).trans (show _ = some (Value.slice A2 x.2.length c2) from rfl)
      have f0 := blk_frozen HX1.out 1
      by_cases h2 : 60 < x.2.length
      · have d1 : decide ((60 : Int) < (x.2.length : Int)) = true := decide_eq_true (by omega)
        obtain ⟨a2, rfl, -⟩ := HA2.out.2.2 (by omega)
        have z1 := fun W => slh40 (ad := a2) (n := x.2.length) (c := c2) 60 (by omega) W
        have hk1 := C_take HA2.out (k := 60) (by omega)
        have HM2 := Lib.hid hk1
        clear hk1
        apply wp_seq_k; intro K3 hK3; have HK3 := Lib.hid hK3; clear hK3
        go_wp2
        refine HK3.out _ _ ?_; clear HK3
        have X0 : (V1.setCell ⟨gy, 1, none⟩ (.slice (some a2) 60 c2)).heap[gy]? = some (.cells #[.slice (some a1) 200 c1, .slice (some a2) 60 c2] 42 (0, 0)) := blk_put HX1.out 1 _ rfl
        have XB := HB1.out.setCell hgy (.slice (some a2) 60 c2) (p := ⟨gy, 1, none⟩)
        generalize (V1.setCell ⟨gy, 1, none⟩ (.slice (some a2) 60 c2)) = V2 at X0 XB ⊢
        clear q0 f0 d1 HX1 HB1 z1
        have HX2 := Lib.hid X0
        have HB2 := Lib.hid XB
        have HN1 := Lib.hid (Kd.C_below HM1.out XB)
        have HN3 := Lib.hid (Kd.C_below HM2.out XB)
        have HF5 := Lib.hid (HS.out.below XB)
        have hsV : w.heap.size + 2 ≤ V2.heap.size := Nat.le_trans HS.out.size XB.size
        clear X0 XB HM1 HM2 HS
        refine wp_drawnV (R := fun _ _ => True) 11 [.val (l), DSpec.any, .val (.pointer (some ⟨gy, 0, none⟩)), .val (.slice (some a1) 200 c1), DSpec.any, DSpec.any, .val (.pointer (some ⟨gy, 1, none⟩)), .val (.slice (some a2) 60 c2), DSpec.any, DSpec.any, DSpec.any] (FG V2 (x.1.take 200) (x.2.take 60)) rfl (by kernel_rfl) (fun vs => ⟨(Below.refl _ _).drew, (fun h => by cases h), (fun h => by cases h), (fun h => by cases h), (fun h => by cases h), (fun h => by cases h), (fun h => by cases h), (fun h => by cases h), (fun h => by cases h), (fun h => by cases h)⟩) ?_ ?_
        · intro vs W d hG a9 ha9
          have e3 : a9.eval (.tmp 3) = l := eo ha9 (by kernel_rfl)
          have e5 : a9.eval (.tmp 5) = .pointer (some ⟨gy, 0, none⟩) := eo ha9 (by kernel_rfl)
          have i52 := ei (d := 52) ha9 1 (by kernel_rfl) rfl rfl (by simp)
          have i53 := ei (d := 53) ha9 2 (by kernel_rfl) rfl rfl (by simp)
          have i54 := ei (d := 54) ha9 3 (by kernel_rfl) rfl rfl (by simp)
          have i55 := ei (d := 55) ha9 4 (by kernel_rfl) rfl rfl (by simp)
          have i56 := ei (d := 56) ha9 5 (by kernel_rfl) rfl rfl (by simp)
          have i57 := ei (d := 57) ha9 6 (by kernel_rfl) rfl rfl (by simp)
          have i58 := ei (d := 58) ha9 7 (by kernel_rfl) rfl rfl (by simp)
          have i59 := ei (d := 59) ha9 8 (by kernel_rfl) rfl rfl (by simp)
          have i60 := ei (d := 60) ha9 9 (by kernel_rfl) rfl rfl (by simp)
          clear ha9
          refine And.intro ?_ (And.intro ?_ (And.intro ?_ (And.intro ?_ (And.intro ?_ (And.intro ?_ (And.intro ?_ (And.intro ?_ (And.intro ?_ (And.intro ?_ (And.intro ?_ (trivial)))))))))))
          · intro hd hp hkd K hK
            refine g_no rfl ?_
            exact st_move (.inl rfl) (e3) (hK _ _ rfl (hG.other (by decide) _) trivial)
          · intro hd hp hkd K hK
            refine g_no rfl ?_
            exact st_buildSlice rfl (by first | (simp only [List.map_toArray, List.map_cons, List.map_nil, eval_const]; done) | (simp only [List.map_toArray, List.map_cons, List.map_nil, eval_const]; rfl)) (by kernel_rfl) (hK _ _ trivial (hG.a1 hd) trivial)
          · intro hd hp hkd K hK
            refine g_no rfl ?_
            exact st_field rfl (e5) (by kernel_rfl) (hK _ _ rfl (hG.other (by decide) _) trivial)
          · intro hd hp hkd K hK
            refine g_no rfl ?_
            have e53 : a9.eval (.tmp 53) = _ := i53.trans (hp 2 (by kernel_rfl))
            exact st_load rfl (e53) (ld_cell 39 (by kernel_rfl) ((blk_cell (blk_below HX2.out hG.bel) 0).trans rfl)) (hK _ _ rfl (hG.other (by decide) _) trivial)
          · intro hd hp hkd K hK
            refine g_no rfl ?_
            have q1 : True := hp 1 (by kernel_rfl)
            have e52 := i52
            have e54 : a9.eval (.tmp 54) = _ := i54.trans (hp 3 (by kernel_rfl))
            exact oper_of_step rfl (Kd.R_append_rows_step (ops := #[]) (Kd.int .i8) (Rr := (Kd.int .i8).K W) (w0 := V2) V2.heap.size (wanted_none rfl) (.tmp 52) (.tmp 54) 39 61 (.int .i8 0) 1 rfl Try.underlying39 info61 rfl (by decide) (by omega) (vs 1) [] (x.1.take 200) (some a1) 200 c1 (fun _ => True) (fun _ => False) e52 e54 (hG.h1 (hkd 1 (by kernel_rfl)) hd) (Kd.C_below HN1.out hG.bel) (fun _ _ h => h) (fun _ hk => hk.elim) (fun _ _ => trivial) hG.bel hG.bel.size (by simp <;> omega) (fun v1 w1 ho hbq hg _ => hK _ _ trivial (hG.s4 hd (hkd 1 (by kernel_rfl)) ho hbq hg) trivial))
          · intro hd hp hkd K hK
            refine g_no rfl ?_
            exact st_buildSlice rfl (by first | (simp only [List.map_toArray, List.map_cons, List.map_nil, eval_const]; done) | (simp only [List.map_toArray, List.map_cons, List.map_nil, eval_const]; rfl)) (by kernel_rfl) (hK _ _ trivial (hG.a5 hd) trivial)
          · intro hd hp hkd K hK
            refine g_no rfl ?_
            exact st_field rfl (e5) (by kernel_rfl) (hK _ _ rfl (hG.other (by decide) _) trivial)
          · intro hd hp hkd K hK
            refine g_no rfl ?_
            have e57 : a9.eval (.tmp 57) = _ := i57.trans (hp 6 (by kernel_rfl))
            exact st_load rfl (e57) (ld_cell 40 (by kernel_rfl) ((blk_cell (blk_below HX2.out hG.bel) 1).trans rfl)) (hK _ _ rfl (hG.other (by decide) _) trivial)
          · intro hd hp hkd K hK
            refine g_no rfl ?_
            have q5 : True := hp 5 (by kernel_rfl)
            have e56 := i56
            have e58 : a9.eval (.tmp 58) = _ := i58.trans (hp 7 (by kernel_rfl))
            exact oper_of_step rfl (Kd.R_append_rows_step (ops := #[]) (Kd.int .i32) (Rr := (Kd.int .i32).K W) (w0 := V2) V2.heap.size (wanted_none rfl) (.tmp 56) (.tmp 58) 40 21 (.int .i32 0) 4 rfl Try.underlying40 info21 rfl (by decide) (by omega) (vs 5) [] (x.2.take 60) (some a2) 60 c2 (fun _ => True) (fun _ => False) e56 e58 (hG.h5 (hkd 5 (by kernel_rfl)) hd) (Kd.C_below HN3.out hG.bel) (fun _ _ h => h) (fun _ hk => hk.elim) (fun _ _ => trivial) hG.bel hG.bel.size (by simp <;> omega) (fun v1 w1 ho hbq hg _ => hK _ _ trivial (hG.s8 hd (hkd 5 (by kernel_rfl)) (hkd 4 (by kernel_rfl)) ho hbq hg) trivial))
          · intro hd hp hkd K hK
            refine g_no rfl ?_
            have q4 : True := hp 4 (by kernel_rfl)
            have e55 := i55
            have q8 : True := hp 8 (by kernel_rfl)
            have e59 := i59
            exact st_build rfl (by first | (simp only [List.map_toArray, List.map_cons, List.map_nil, eval_const, e55, e59]; done) | (simp only [List.map_toArray, List.map_cons, List.map_nil, eval_const, e55, e59]; rfl)) (bld42 (R_slc (hG.h4 (hkd 4 (by kernel_rfl)))) (R_slc (hG.h8 (hkd 8 (by kernel_rfl)))) _) (hK _ _ trivial (hG.s9 hd (hkd 8 (by kernel_rfl))) trivial)
          · intro hd hp hkd K hK
            refine g_no rfl ?_
            have q9 : True := hp 9 (by kernel_rfl)
            have e60 := i60.trans (hG.h9 (hkd 9 (by kernel_rfl)))
            exact st_buildSlice rfl (by first | (simp only [List.map_toArray, List.map_cons, List.map_nil, eval_const, e60]; done) | (simp only [List.map_toArray, List.map_cons, List.map_nil, eval_const, e60]; rfl)) (bls23 (R_slc (hG.h4 (hG.d4 (hG.d9 (hkd 9 (by kernel_rfl)))).1)) (R_slc (hG.h8 (hG.d9 (hkd 9 (by kernel_rfl))))) _) (hK _ _ trivial (hG.s10 (hkd 9 (by kernel_rfl))) trivial)
        intro vs W d hG hp hall a9 ha9
        have q0 : vs 0 = _ := hp 0 (by decide)
        have q1 : True := hp 1 (by decide)
        have q4 : True := hp 4 (by decide)
        have q5 : True := hp 5 (by decide)
        have q8 : True := hp 8 (by decide)
        have q9 : True := hp 9 (by decide)
        have q10 : True := hp 10 (by decide)
        clear hp
        simp only [fill, Act.put, List.append_eq, List.cons_append, List.nil_append, List.take_succ_cons, List.take_zero, List.setIfInBounds_toArray, List.set_cons_succ, List.set_cons_zero, Nat.reduceAdd, Nat.zero_add, q0] at ha9
        subst ha9
        simp only [List.append_eq, List.cons_append, List.nil_append, List.drop_succ_cons, List.drop_zero]
        clear q0
        obtain ⟨g10, hv10, hg10, hb10⟩ := hG.h10 (hall 10 (by decide))
        have r4 := hG.h4 (hall 4 (by decide))
        have r8 := hG.h8 (hall 8 (by decide))
        have HBW := Lib.hid hG.bel
        have HFW := Lib.hid (HF5.out.below hG.bel)
        rw [hv10]
        clear hv10 hG hall
        generalize vs 4 = v4 at *
        generalize vs 8 = v8 at *
        have HK := fun (y : List Int × List Int) (ds : List Value) (h : y = fewX x ∧ ds = [v4, v8]) => (show kCo.M W (w.heap.size + 2) (fun k => some k ≠ Value.ownBlock l) y ds from by obtain ⟨rfl, rfl⟩ := h; exact kCo_M (R_okne (Kd.R_lower r4 hsV) (Kd.R_typed HFW.out.r) (by decide)) (R_okne (Kd.R_lower r8 hsV) (Kd.R_typed HFW.out.r) (by decide)))
        have HKH := Lib.hid HK
        have HB10 := Lib.hid hb10
        clear HK r4 r8 hb10
        go_wp2_with ((with_reducible refine gate_builtin (b := .append) (xs := #[.tmp 51, .tmp 61]) rfl ?_); at_builtin; refine Kd.R_append_rows kCo (Rr := fun y ds => y = fewX x ∧ ds = [v4, v8]) (w0 := W) (w.heap.size + 2) rfl (.tmp 51) (.tmp 61) 23 42 (.agg #[.slice none 0 0, .slice none 0 0]) 48 rfl Try.underlying23 info42 rfl (by decide) (by omega) l ((CS.take i).map fewX) [fewX x] (some ⟨g10, 0, none⟩) 1 1 (fun _ => True) (fun k => some k ≠ Value.ownBlock l) rfl rfl HFW.out.r (row_one (cs := [v4, v8]) HB10.out) HKH.out (fun k hk => ⟨trivial, hk⟩) (fun _ _ => trivial) (Below.refl _ _) HFW.out.size (by rw [List.length_map, List.length_take]; omega) ?_; intro v9 w3 ho3 hb3 hg3 hat3; have HS3 := Lib.hid (HFW.out.app ho3 hb3); clear ho3 hb3 hg3 hat3)
        refine HK8.out _ _ ?_; clear HK8
        go_wp2
        exact ⟨loop_frame (by kernel_rfl), ⟨i + 1, by show Value.int .i64 _ = _; simp, by omega, _, rfl, by rw [map_snoc2 HXI.out]; exact HS3.out⟩, Msr.lt (by omega)⟩
      · have d1 : decide ((60 : Int) < (x.2.length : Int)) = false := decide_eq_false (by omega)
        have hk1 : (Kd.int .i32).C W5 A2 x.2.length (x.2.take 60) := by rw [List.take_of_length_le (by omega)]; exact HA2.out
        have HM2 := Lib.hid hk1
        clear hk1
        apply wp_seq_k; intro K3 hK3; have HK3 := Lib.hid hK3; clear hK3
        go_wp2
        refine HK3.out _ _ ?_; clear HK3
        have X0 := HX1.out
        have XB := HB1.out
        generalize V1 = V2 at X0 XB ⊢
        clear q0 f0 d1 HX1 HB1
        have HX2 := Lib.hid X0
        have HB2 := Lib.hid XB
        have HN1 := Lib.hid (Kd.C_below HM1.out XB)
        have HN3 := Lib.hid (Kd.C_below HM2.out XB)
        have HF5 := Lib.hid (HS.out.below XB)
        have hsV : w.heap.size + 2 ≤ V2.heap.size := Nat.le_trans HS.out.size XB.size
        clear X0 XB HM1 HM2 HS
        refine wp_drawnV (R := fun _ _ => True) 11 [.val (l), DSpec.any, .val (.pointer (some ⟨gy, 0, none⟩)), .val (.slice (some a1) 200 c1), DSpec.any, DSpec.any, .val (.pointer (some ⟨gy, 1, none⟩)), .val (.slice A2 x.2.length c2), DSpec.any, DSpec.any, DSpec.any] (FG V2 (x.1.take 200) (x.2.take 60)) rfl (by kernel_rfl) (fun vs => ⟨(Below.refl _ _).drew, (fun h => by cases h), (fun h => by cases h), (fun h => by cases h), (fun h => by cases h), (fun h => by cases h), (fun h => by cases h), (fun h => by cases h), (fun h => by cases h), (fun h => by cases h)⟩) ?_ ?_
        · intro vs W d hG a9 ha9
          have e3 : a9.eval (.tmp 3) = l := eo ha9 (by kernel_rfl)
          have e5 : a9.eval (.tmp 5) = .pointer (some ⟨gy, 0, none⟩) := eo ha9 (by kernel_rfl)
          have i52 := ei (d := 52) ha9 1 (by kernel_rfl) rfl rfl (by simp)
          have i53 := ei (d := 53) ha9 2 (by kernel_rfl) rfl rfl (by simp)
          have i54 := ei (d := 54) ha9 3 (by kernel_rfl) rfl rfl (by simp)
          have i55 := ei (d := 55) ha9 4 (by kernel_rfl) rfl rfl (by simp)
          have i56 := ei (d := 56) ha9 5 (by kernel_rfl) rfl rfl (by simp)
          have i57 := ei (d := 57) ha9 6 (by kernel_rfl) rfl rfl (by simp)
          have i58 := ei (d := 58) ha9 7 (by kernel_rfl) rfl rfl (by simp)
          have i59 := ei (d := 59) ha9 8 (by kernel_rfl) rfl rfl (by simp)
          have i60 := ei (d := 60) ha9 9 (by kernel_rfl) rfl rfl (by simp)
          clear ha9
          refine And.intro ?_ (And.intro ?_ (And.intro ?_ (And.intro ?_ (And.intro ?_ (And.intro ?_ (And.intro ?_ (And.intro ?_ (And.intro ?_ (And.intro ?_ (And.intro ?_ (trivial)))))))))))
          · intro hd hp hkd K hK
            refine g_no rfl ?_
            exact st_move (.inl rfl) (e3) (hK _ _ rfl (hG.other (by decide) _) trivial)
          · intro hd hp hkd K hK
            refine g_no rfl ?_
            exact st_buildSlice rfl (by first | (simp only [List.map_toArray, List.map_cons, List.map_nil, eval_const]; done) | (simp only [List.map_toArray, List.map_cons, List.map_nil, eval_const]; rfl)) (by kernel_rfl) (hK _ _ trivial (hG.a1 hd) trivial)
          · intro hd hp hkd K hK
            refine g_no rfl ?_
            exact st_field rfl (e5) (by kernel_rfl) (hK _ _ rfl (hG.other (by decide) _) trivial)
          · intro hd hp hkd K hK
            refine g_no rfl ?_
            have e53 : a9.eval (.tmp 53) = _ := i53.trans (hp 2 (by kernel_rfl))
            exact st_load rfl (e53) (ld_cell 39 (by kernel_rfl) ((blk_cell (blk_below HX2.out hG.bel) 0).trans rfl)) (hK _ _ rfl (hG.other (by decide) _) trivial)
          · intro hd hp hkd K hK
            refine g_no rfl ?_
            have q1 : True := hp 1 (by kernel_rfl)
            have e52 := i52
            have e54 : a9.eval (.tmp 54) = _ := i54.trans (hp 3 (by kernel_rfl))
            exact oper_of_step rfl (Kd.R_append_rows_step (ops := #[]) (Kd.int .i8) (Rr := (Kd.int .i8).K W) (w0 := V2) V2.heap.size (wanted_none rfl) (.tmp 52) (.tmp 54) 39 61 (.int .i8 0) 1 rfl Try.underlying39 info61 rfl (by decide) (by omega) (vs 1) [] (x.1.take 200) (some a1) 200 c1 (fun _ => True) (fun _ => False) e52 e54 (hG.h1 (hkd 1 (by kernel_rfl)) hd) (Kd.C_below HN1.out hG.bel) (fun _ _ h => h) (fun _ hk => hk.elim) (fun _ _ => trivial) hG.bel hG.bel.size (by simp <;> omega) (fun v1 w1 ho hbq hg _ => hK _ _ trivial (hG.s4 hd (hkd 1 (by kernel_rfl)) ho hbq hg) trivial))
          · intro hd hp hkd K hK
            refine g_no rfl ?_
            exact st_buildSlice rfl (by first | (simp only [List.map_toArray, List.map_cons, List.map_nil, eval_const]; done) | (simp only [List.map_toArray, List.map_cons, List.map_nil, eval_const]; rfl)) (by kernel_rfl) (hK _ _ trivial (hG.a5 hd) trivial)
          · intro hd hp hkd K hK
            refine g_no rfl ?_
            exact st_field rfl (e5) (by kernel_rfl) (hK _ _ rfl (hG.other (by decide) _) trivial)
          · intro hd hp hkd K hK
            refine g_no rfl ?_
            have e57 : a9.eval (.tmp 57) = _ := i57.trans (hp 6 (by kernel_rfl))
            exact st_load rfl (e57) (ld_cell 40 (by kernel_rfl) ((blk_cell (blk_below HX2.out hG.bel) 1).trans rfl)) (hK _ _ rfl (hG.other (by decide) _) trivial)
          · intro hd hp hkd K hK
            refine g_no rfl ?_
            have q5 : True := hp 5 (by kernel_rfl)
            have e56 := i56
            have e58 : a9.eval (.tmp 58) = _ := i58.trans (hp 7 (by kernel_rfl))
            exact oper_of_step rfl (Kd.R_append_rows_step (ops := #[]) (Kd.int .i32) (Rr := (Kd.int .i32).K W) (w0 := V2) V2.heap.size (wanted_none rfl) (.tmp 56) (.tmp 58) 40 21 (.int .i32 0) 4 rfl Try.underlying40 info21 rfl (by decide) (by omega) (vs 5) [] (x.2.take 60) A2 x.2.length c2 (fun _ => True) (fun _ => False) e56 e58 (hG.h5 (hkd 5 (by kernel_rfl)) hd) (Kd.C_below HN3.out hG.bel) (fun _ _ h => h) (fun _ hk => hk.elim) (fun _ _ => trivial) hG.bel hG.bel.size (by simp <;> omega) (fun v1 w1 ho hbq hg _ => hK _ _ trivial (hG.s8 hd (hkd 5 (by kernel_rfl)) (hkd 4 (by kernel_rfl)) ho hbq hg) trivial))
          · intro hd hp hkd K hK
            refine g_no rfl ?_
            have q4 : True := hp 4 (by kernel_rfl)
            have e55 := i55
            have q8 : True := hp 8 (by kernel_rfl)
            have e59 := i59
            exact st_build rfl (by first | (simp only [List.map_toArray, List.map_cons, List.map_nil, eval_const, e55, e59]; done) | (simp only [List.map_toArray, List.map_cons, List.map_nil, eval_const, e55, e59]; rfl)) (bld42 (R_slc (hG.h4 (hkd 4 (by kernel_rfl)))) (R_slc (hG.h8 (hkd 8 (by kernel_rfl)))) _) (hK _ _ trivial (hG.s9 hd (hkd 8 (by kernel_rfl))) trivial)
          · intro hd hp hkd K hK
            refine g_no rfl ?_
            have q9 : True := hp 9 (by kernel_rfl)
            have e60 := i60.trans (hG.h9 (hkd 9 (by kernel_rfl)))
            exact st_buildSlice rfl (by first | (simp only [List.map_toArray, List.map_cons, List.map_nil, eval_const, e60]; done) | (simp only [List.map_toArray, List.map_cons, List.map_nil, eval_const, e60]; rfl)) (bls23 (R_slc (hG.h4 (hG.d4 (hG.d9 (hkd 9 (by kernel_rfl)))).1)) (R_slc (hG.h8 (hG.d9 (hkd 9 (by kernel_rfl))))) _) (hK _ _ trivial (hG.s10 (hkd 9 (by kernel_rfl))) trivial)
        intro vs W d hG hp hall a9 ha9
        have q0 : vs 0 = _ := hp 0 (by decide)
        have q1 : True := hp 1 (by decide)
        have q4 : True := hp 4 (by decide)
        have q5 : True := hp 5 (by decide)
        have q8 : True := hp 8 (by decide)
        have q9 : True := hp 9 (by decide)
        have q10 : True := hp 10 (by decide)
        clear hp
        simp only [fill, Act.put, List.append_eq, List.cons_append, List.nil_append, List.take_succ_cons, List.take_zero, List.setIfInBounds_toArray, List.set_cons_succ, List.set_cons_zero, Nat.reduceAdd, Nat.zero_add, q0] at ha9
        subst ha9
        simp only [List.append_eq, List.cons_append, List.nil_append, List.drop_succ_cons, List.drop_zero]
        clear q0
        obtain ⟨g10, hv10, hg10, hb10⟩ := hG.h10 (hall 10 (by decide))
        have r4 := hG.h4 (hall 4 (by decide))
        have r8 := hG.h8 (hall 8 (by decide))
        have HBW := Lib.hid hG.bel
        have HFW := Lib.hid (HF5.out.below hG.bel)
        rw [hv10]
        clear hv10 hG hall
        generalize vs 4 = v4 at *
        generalize vs 8 = v8 at *
        have HK := fun (y : List Int × List Int) (ds : List Value) (h : y = fewX x ∧ ds = [v4, v8]) => (show kCo.M W (w.heap.size + 2) (fun k => some k ≠ Value.ownBlock l) y ds from by obtain ⟨rfl, rfl⟩ := h; exact kCo_M (R_okne (Kd.R_lower r4 hsV) (Kd.R_typed HFW.out.r) (by decide)) (R_okne (Kd.R_lower r8 hsV) (Kd.R_typed HFW.out.r) (by decide)))
        have HKH := Lib.hid HK
        have HB10 := Lib.hid hb10
        clear HK r4 r8 hb10
        go_wp2_with ((with_reducible refine gate_builtin (b := .append) (xs := #[.tmp 51, .tmp 61]) rfl ?_); at_builtin; refine Kd.R_append_rows kCo (Rr := fun y ds => y = fewX x ∧ ds = [v4, v8]) (w0 := W) (w.heap.size + 2) rfl (.tmp 51) (.tmp 61) 23 42 (.agg #[.slice none 0 0, .slice none 0 0]) 48 rfl Try.underlying23 info42 rfl (by decide) (by omega) l ((CS.take i).map fewX) [fewX x] (some ⟨g10, 0, none⟩) 1 1 (fun _ => True) (fun k => some k ≠ Value.ownBlock l) rfl rfl HFW.out.r (row_one (cs := [v4, v8]) HB10.out) HKH.out (fun k hk => ⟨trivial, hk⟩) (fun _ _ => trivial) (Below.refl _ _) HFW.out.size (by rw [List.length_map, List.length_take]; omega) ?_; intro v9 w3 ho3 hb3 hg3 hat3; have HS3 := Lib.hid (HFW.out.app ho3 hb3); clear ho3 hb3 hg3 hat3)
        refine HK8.out _ _ ?_; clear HK8
        go_wp2
        exact ⟨loop_frame (by kernel_rfl), ⟨i + 1, by show Value.int .i64 _ = _; simp, by omega, _, rfl, by rw [map_snoc2 HXI.out]; exact HS3.out⟩, Msr.lt (by omega)⟩
    · have d1 : decide ((200 : Int) < (x.1.length : Int)) = false := decide_eq_false (by omega)
      have hk1 : (Kd.int .i8).C W5 A1 x.1.length (x.1.take 200) := by rw [List.take_of_length_le (by omega)]; exact HA1.out
      have HM1 := Lib.hid hk1
      clear hk1
      apply wp_seq_k; intro K3 hK3; have HK3 := Lib.hid hK3; clear hK3
      go_wp2
      refine HK3.out _ _ ?_; clear HK3
      have X0 := hX.out
      have XB := HBV.out
      generalize V = V1 at X0 XB ⊢
      clear q0 f0 d1 hX HBV
      have HX1 := Lib.hid X0
      have HB1 := Lib.hid XB
      clear X0 XB
      have q0 := (blk_cell HX1.out 1).trans (show _ = some (Value.slice A2 x.2.length c2) from rfl)
      have f0 := blk_frozen HX1.out 1
      by_cases h2 : 60 < x.2.length
      · have d1 : decide ((60 : Int) < (x.2.length : Int)) = true := decide_eq_true (by omega)
        obtain ⟨a2, rfl, -⟩ := HA2.out.2.2 (by omega)
        have z1 := fun W => slh40 (ad := a2) (n := x.2.length) (c := c2) 60 (by omega) W
        have hk1 := C_take HA2.out (k := 60) (by omega)
        have HM2 := Lib.hid hk1
        clear hk1
        apply wp_seq_k; intro K3 hK3; have HK3 := Lib.hid hK3; clear hK3
        go_wp2
        refine HK3.out _ _ ?_; clear HK3
        have X0 : (V1.setCell ⟨gy, 1, none⟩ (.slice (some a2) 60 c2)).heap[gy]? = some (.cells #[.slice A1 x.1.length c1, .slice (some a2) 60 c2] 42 (0, 0)) := blk_put HX1.out 1 _ rfl
        have XB := HB1.out.setCell hgy (.slice (some a2) 60 c2) (p := ⟨gy, 1, none⟩)
        generalize (V1.setCell ⟨gy, 1, none⟩ (.slice (some a2) 60 c2)) = V2 at X0 XB ⊢
        clear q0 f0 d1 HX1 HB1 z1
        have HX2 := Lib.hid X0
        have HB2 := Lib.hid XB
        have HN1 := Lib.hid (Kd.C_below HM1.out XB)
        have HN3 := Lib.hid (Kd.C_below HM2.out XB)
        have HF5 := Lib.hid (HS.out.below XB)
        have hsV : w.heap.size + 2 ≤ V2.heap.size := Nat.le_trans HS.out.size XB.size
        clear X0 XB HM1 HM2 HS
        refine wp_drawnV (R := fun _ _ => True) 11 [.val (l), DSpec.any, .val (.pointer (some ⟨gy, 0, none⟩)), .val (.slice A1 x.1.length c1), DSpec.any, DSpec.any, .val (.pointer (some ⟨gy, 1, none⟩)), .val (.slice (some a2) 60 c2), DSpec.any, DSpec.any, DSpec.any] (FG V2 (x.1.take 200) (x.2.take 60)) rfl (by kernel_rfl) (fun vs => ⟨(Below.refl _ _).drew, (fun h => by cases h), (fun h => by cases h), (fun h => by cases h), (fun h => by cases h), (fun h => by cases h), (fun h => by cases h), (fun h => by cases h), (fun h => by cases h), (fun h => by cases h)⟩) ?_ ?_
        · intro vs W d hG a9 ha9
          have e3 : a9.eval (.tmp 3) = l := eo ha9 (by kernel_rfl)
          have e5 : a9.eval (.tmp 5) = .pointer (some ⟨gy, 0, none⟩) := eo ha9 (by kernel_rfl)
          have i52 := ei (d := 52) ha9 1 (by kernel_rfl) rfl rfl (by simp)
          have i53 := ei (d := 53) ha9 2 (by kernel_rfl) rfl rfl (by simp)
          have i54 := ei (d := 54) ha9 3 (by kernel_rfl) rfl rfl (by simp)
          have i55 := ei (d := 55) ha9 4 (by kernel_rfl) rfl rfl (by simp)
          have i56 := ei (d := 56) ha9 5 (by kernel_rfl) rfl rfl (by simp)
          have i57 := ei (d := 57) ha9 6 (by kernel_rfl) rfl rfl (by simp)
          have i58 := ei (d := 58) ha9 7 (by kernel_rfl) rfl rfl (by simp)
          have i59 := ei (d := 59) ha9 8 (by kernel_rfl) rfl rfl (by simp)
          have i60 := ei (d := 60) ha9 9 (by kernel_rfl) rfl rfl (by simp)
          clear ha9
          refine And.intro ?_ (And.intro ?_ (And.intro ?_ (And.intro ?_ (And.intro ?_ (And.intro ?_ (And.intro ?_ (And.intro ?_ (And.intro ?_ (And.intro ?_ (And.intro ?_ (trivial)))))))))))
          · intro hd hp hkd K hK
            refine g_no rfl ?_
            exact st_move (.inl rfl) (e3) (hK _ _ rfl (hG.other (by decide) _) trivial)
          · intro hd hp hkd K hK
            refine g_no rfl ?_
            exact st_buildSlice rfl (by first | (simp only [List.map_toArray, List.map_cons, List.map_nil, eval_const]; done) | (simp only [List.map_toArray, List.map_cons, List.map_nil, eval_const]; rfl)) (by kernel_rfl) (hK _ _ trivial (hG.a1 hd) trivial)
          · intro hd hp hkd K hK
            refine g_no rfl ?_
            exact st_field rfl (e5) (by kernel_rfl) (hK _ _ rfl (hG.other (by decide) _) trivial)
          · intro hd hp hkd K hK
            refine g_no rfl ?_
            have e53 : a9.eval (.tmp 53) = _ := i53.trans (hp 2 (by kernel_rfl))
            exact st_load rfl (e53) (ld_cell 39 (by kernel_rfl) ((blk_cell (blk_below HX2.out hG.bel) 0).trans rfl)) (hK _ _ rfl (hG.other (by decide) _) trivial)
          · intro hd hp hkd K hK
            refine g_no rfl ?_
            have q1 : True := hp 1 (by kernel_rfl)
            have e52 := i52
            have e54 : a9.eval (.tmp 54) = _ := i54.trans (hp 3 (by kernel_rfl))
            exact oper_of_step rfl (Kd.R_append_rows_step (ops := #[]) (Kd.int .i8) (Rr := (Kd.int .i8).K W) (w0 := V2) V2.heap.size (wanted_none rfl) (.tmp 52) (.tmp 54) 39 61 (.int .i8 0) 1 rfl Try.underlying39 info61 rfl (by decide) (by omega) (vs 1) [] (x.1.take 200) A1 x.1.length c1 (fun _ => True) (fun _ => False) e52 e54 (hG.h1 (hkd 1 (by kernel_rfl)) hd) (Kd.C_below HN1.out hG.bel) (fun _ _ h => h) (fun _ hk => hk.elim) (fun _ _ => trivial) hG.bel hG.bel.size (by simp <;> omega) (fun v1 w1 ho hbq hg _ => hK _ _ trivial (hG.s4 hd (hkd 1 (by kernel_rfl)) ho hbq hg) trivial))
          · intro hd hp hkd K hK
            refine g_no rfl ?_
            exact st_buildSlice rfl (by first | (simp only [List.map_toArray, List.map_cons, List.map_nil, eval_const]; done) | (simp only [List.map_toArray, List.map_cons, List.map_nil, eval_const]; rfl)) (by kernel_rfl) (hK _ _ trivial (hG.a5 hd) trivial)
          · intro hd hp hkd K hK
            refine g_no rfl ?_
            exact st_field rfl (e5) (by kernel_rfl) (hK _ _ rfl (hG.other (by decide) _) trivial)
          · intro hd hp hkd K hK
            refine g_no rfl ?_
            have e57 : a9.eval (.tmp 57) = _ := i57.trans (hp 6 (by kernel_rfl))
            exact st_load rfl (e57) (ld_cell 40 (by kernel_rfl) ((blk_cell (blk_below HX2.out hG.bel) 1).trans rfl)) (hK _ _ rfl (hG.other (by decide) _) trivial)
          · intro hd hp hkd K hK
            refine g_no rfl ?_
            have q5 : True := hp 5 (by kernel_rfl)
            have e56 := i56
            have e58 : a9.eval (.tmp 58) = _ := i58.trans (hp 7 (by kernel_rfl))
            exact oper_of_step rfl (Kd.R_append_rows_step (ops := #[]) (Kd.int .i32) (Rr := (Kd.int .i32).K W) (w0 := V2) V2.heap.size (wanted_none rfl) (.tmp 56) (.tmp 58) 40 21 (.int .i32 0) 4 rfl Try.underlying40 info21 rfl (by decide) (by omega) (vs 5) [] (x.2.take 60) (some a2) 60 c2 (fun _ => True) (fun _ => False) e56 e58 (hG.h5 (hkd 5 (by kernel_rfl)) hd) (Kd.C_below HN3.out hG.bel) (fun _ _ h => h) (fun _ hk => hk.elim) (fun _ _ => trivial) hG.bel hG.bel.size (by simp <;> omega) (fun v1 w1 ho hbq hg _ => hK _ _ trivial (hG.s8 hd (hkd 5 (by kernel_rfl)) (hkd 4 (by kernel_rfl)) ho hbq hg) trivial))
          · intro hd hp hkd K hK
            refine g_no rfl ?_
            have q4 : True := hp 4 (by kernel_rfl)
            have e55 := i55
            have q8 : True := hp 8 (by kernel_rfl)
            have e59 := i59
            exact st_build rfl (by first | (simp only [List.map_toArray, List.map_cons, List.map_nil, eval_const, e55, e59]; done) | (simp only [List.map_toArray, List.map_cons, List.map_nil, eval_const, e55, e59]; rfl)) (bld42 (R_slc (hG.h4 (hkd 4 (by kernel_rfl)))) (R_slc (hG.h8 (hkd 8 (by kernel_rfl)))) _) (hK _ _ trivial (hG.s9 hd (hkd 8 (by kernel_rfl))) trivial)
          · intro hd hp hkd K hK
            refine g_no rfl ?_
            have q9 : True := hp 9 (by kernel_rfl)
            have e60 := i60.trans (hG.h9 (hkd 9 (by kernel_rfl)))
            exact st_buildSlice rfl (by first | (simp only [List.map_toArray, List.map_cons, List.map_nil, eval_const, e60]; done) | (simp only [List.map_toArray, List.map_cons, List.map_nil, eval_const, e60]; rfl)) (bls23 (R_slc (hG.h4 (hG.d4 (hG.d9 (hkd 9 (by kernel_rfl)))).1)) (R_slc (hG.h8 (hG.d9 (hkd 9 (by kernel_rfl))))) _) (hK _ _ trivial (hG.s10 (hkd 9 (by kernel_rfl))) trivial)
        intro vs W d hG hp hall a9 ha9
        have q0 : vs 0 = _ := hp 0 (by decide)
        have q1 : True := hp 1 (by decide)
        have q4 : True := hp 4 (by decide)
        have q5 : True := hp 5 (by decide)
        have q8 : True := hp 8 (by decide)
        have q9 : True := hp 9 (by decide)
        have q10 : True := hp 10 (by decide)
        clear hp
        simp only [fill, Act.put, List.append_eq, List.cons_append, List.nil_append, List.take_succ_cons, List.take_zero, List.setIfInBounds_toArray, List.set_cons_succ, List.set_cons_zero, Nat.reduceAdd, Nat.zero_add, q0] at ha9
        subst ha9
        simp only [List.append_eq, List.cons_append, List.nil_append, List.drop_succ_cons, List.drop_zero]
        clear q0
        obtain ⟨g10, hv10, hg10, hb10⟩ := hG.h10 (hall 10 (by decide))
        have r4 := hG.h4 (hall 4 (by decide))
        have r8 := hG.h8 (hall 8 (by decide))
        have HBW := Lib.hid hG.bel
        have HFW := Lib.hid (HF5.out.below hG.bel)
        rw [hv10]
        clear hv10 hG hall
        generalize vs 4 = v4 at *
        generalize vs 8 = v8 at *
        have HK := fun (y : List Int × List Int) (ds : List Value) (h : y = fewX x ∧ ds = [v4, v8]) => (show kCo.M W (w.heap.size + 2) (fun k => some k ≠ Value.ownBlock l) y ds from by obtain ⟨rfl, rfl⟩ := h; exact kCo_M (R_okne (Kd.R_lower r4 hsV) (Kd.R_typed HFW.out.r) (by decide)) (R_okne (Kd.R_lower r8 hsV) (Kd.R_typed HFW.out.r) (by decide)))
        have HKH := Lib.hid HK
        have HB10 := Lib.hid hb10
        clear HK r4 r8 hb10
        go_wp2_with ((with_reducible refine gate_builtin (b := .append) (xs := #[.tmp 51, .tmp 61]) rfl ?_); at_builtin; refine Kd.R_append_rows kCo (Rr := fun y ds => y = fewX x ∧ ds = [v4, v8]) (w0 := W) (w.heap.size + 2) rfl (.tmp 51) (.tmp 61) 23 42 (.agg #[.slice none 0 0, .slice none 0 0]) 48 rfl Try.underlying23 info42 rfl (by decide) (by omega) l ((CS.take i).map fewX) [fewX x] (some ⟨g10, 0, none⟩) 1 1 (fun _ => True) (fun k => some k ≠ Value.ownBlock l) rfl rfl HFW.out.r (row_one (cs := [v4, v8]) HB10.out) HKH.out (fun k hk => ⟨trivial, hk⟩) (fun _ _ => trivial) (Below.refl _ _) HFW.out.size (by rw [List.length_map, List.length_take]; omega) ?_; intro v9 w3 ho3 hb3 hg3 hat3; have HS3 := Lib.hid (HFW.out.app ho3 hb3); clear ho3 hb3 hg3 hat3)
        refine HK8.out _ _ ?_; clear HK8
        go_wp2
        exact ⟨loop_frame (by kernel_rfl), ⟨i + 1, by show Value.int .i64 _ = _; simp, by omega, _, rfl, by rw [map_snoc2 HXI.out]; exact HS3.out⟩, Msr.lt (by omega)⟩
      · have d1 : decide ((60 : Int) < (x.2.length : Int)) = false := decide_eq_false (by omega)
        have hk1 : (Kd.int .i32).C W5 A2 x.2.length (x.2.take 60) := by rw [List.take_of_length_le (by omega)]; exact HA2.out
        have HM2 := Lib.hid hk1
        clear hk1
        apply wp_seq_k; intro K3 hK3; have HK3 := Lib.hid hK3; clear hK3
        go_wp2
        refine HK3.out _ _ ?_; clear HK3
        have X0 := HX1.out
        have XB := HB1.out
        generalize V1 = V2 at X0 XB ⊢
        clear q0 f0 d1 HX1 HB1
        have HX2 := Lib.hid X0
        have HB2 := Lib.hid XB
        have HN1 := Lib.hid (Kd.C_below HM1.out XB)
        have HN3 := Lib.hid (Kd.C_below HM2.out XB)
        have HF5 := Lib.hid (HS.out.below XB)
        have hsV : w.heap.size + 2 ≤ V2.heap.size := Nat.le_trans HS.out.size XB.size
        clear X0 XB HM1 HM2 HS
        refine wp_drawnV (R := fun _ _ => True) 11 [.val (l), DSpec.any, .val (.pointer (some ⟨gy, 0, none⟩)), .val (.slice A1 x.1.length c1), DSpec.any, DSpec.any, .val (.pointer (some ⟨gy, 1, none⟩)), .val (.slice A2 x.2.length c2), DSpec.any, DSpec.any, DSpec.any] (FG V2 (x.1.take 200) (x.2.take 60)) rfl (by kernel_rfl) (fun vs => ⟨(Below.refl _ _).drew, (fun h => by cases h), (fun h => by cases h), (fun h => by cases h), (fun h => by cases h), (fun h => by cases h), (fun h => by cases h), (fun h => by cases h), (fun h => by cases h), (fun h => by cases h)⟩) ?_ ?_
        · intro vs W d hG a9 ha9
          have e3 : a9.eval (.tmp 3) = l := eo ha9 (by kernel_rfl)
          have e5 : a9.eval (.tmp 5) = .pointer (some ⟨gy, 0, none⟩) := eo ha9 (by kernel_rfl)
          have i52 := ei (d := 52) ha9 1 (by kernel_rfl) rfl rfl (by simp)
          have i53 := ei (d := 53) ha9 2 (by kernel_rfl) rfl rfl (by simp)
          have i54 := ei (d := 54) ha9 3 (by kernel_rfl) rfl rfl (by simp)
          have i55 := ei (d := 55) ha9 4 (by kernel_rfl) rfl rfl (by simp)
          have i56 := ei (d := 56) ha9 5 (by kernel_rfl) rfl rfl (by simp)
          have i57 := ei (d := 57) ha9 6 (by kernel_rfl) rfl rfl (by simp)
          have i58 := ei (d := 58) ha9 7 (by kernel_rfl) rfl rfl (by simp)
          have i59 := ei (d := 59) ha9 8 (by kernel_rfl) rfl rfl (by simp)
          have i60 := ei (d := 60) ha9 9 (by kernel_rfl) rfl rfl (by simp)
          clear ha9
          refine And.intro ?_ (And.intro ?_ (And.intro ?_ (And.intro ?_ (And.intro ?_ (And.intro ?_ (And.intro ?_ (And.intro ?_ (And.intro ?_ (And.intro ?_ (And.intro ?_ (trivial)))))))))))
          · intro hd hp hkd K hK
            refine g_no rfl ?_
            exact st_move (.inl rfl) (e3) (hK _ _ rfl (hG.other (by decide) _) trivial)
          · intro hd hp hkd K hK
            refine g_no rfl ?_
            exact st_buildSlice rfl (by first | (simp only [List.map_toArray, List.map_cons, List.map_nil, eval_const]; done) | (simp only [List.map_toArray, List.map_cons, List.map_nil, eval_const]; rfl)) (by kernel_rfl) (hK _ _ trivial (hG.a1 hd) trivial)
          · intro hd hp hkd K hK
            refine g_no rfl ?_
            exact st_field rfl (e5) (by kernel_rfl) (hK _ _ rfl (hG.other (by decide) _) trivial)
          · intro hd hp hkd K hK
            refine g_no rfl ?_
            have e53 : a9.eval (.tmp 53) = _ := i53.trans (hp 2 (by kernel_rfl))
            exact st_load rfl (e53) (ld_cell 39 (by kernel_rfl) ((blk_cell (blk_below HX2.out hG.bel) 0).trans rfl)) (hK _ _ rfl (hG.other (by decide) _) trivial)
          · intro hd hp hkd K hK
            refine g_no rfl ?_
            have q1 : True := hp 1 (by kernel_rfl)
            have e52 := i52
            have e54 : a9.eval (.tmp 54) = _ := i54.trans (hp 3 (by kernel_rfl))
            exact oper_of_step rfl (Kd.R_append_rows_step (ops := #[]) (Kd.int .i8) (Rr := (Kd.int .i8).K W) (w0 := V2) V2.heap.size (wanted_none rfl) (.tmp 52) (.tmp 54) 39 61 (.int .i8 0) 1 rfl Try.underlying39 info61 rfl (by decide) (by omega) (vs 1) [] (x.1.take 200) A1 x.1.length c1 (fun _ => True) (fun _ => False) e52 e54 (hG.h1 (hkd 1 (by kernel_rfl)) hd) (Kd.C_below HN1.out hG.bel) (fun _ _ h => h) (fun _ hk => hk.elim) (fun _ _ => trivial) hG.bel hG.bel.size (by simp <;> omega) (fun v1 w1 ho hbq hg _ => hK _ _ trivial (hG.s4 hd (hkd 1 (by kernel_rfl)) ho hbq hg) trivial))
          · intro hd hp hkd K hK
            refine g_no rfl ?_
            exact st_buildSlice rfl (by first | (simp only [List.map_toArray, List.map_cons, List.map_nil, eval_const]; done) | (simp only [List.map_toArray, List.map_cons, List.map_nil, eval_const]; rfl)) (by kernel_rfl) (hK _ _ trivial (hG.a5 hd) trivial)
          · intro hd hp hkd K hK
            refine g_no rfl ?_
            exact st_field rfl (e5) (by kernel_rfl) (hK _ _ rfl (hG.other (by decide) _) trivial)
          · intro hd hp hkd K hK
            refine g_no rfl ?_
            have e57 : a9.eval (.tmp 57) = _ := i57.trans (hp 6 (by kernel_rfl))
            exact st_load rfl (e57) (ld_cell 40 (by kernel_rfl) ((blk_cell (blk_below HX2.out hG.bel) 1).trans rfl)) (hK _ _ rfl (hG.other (by decide) _) trivial)
          · intro hd hp hkd K hK
            refine g_no rfl ?_
            have q5 : True := hp 5 (by kernel_rfl)
            have e56 := i56
            have e58 : a9.eval (.tmp 58) = _ := i58.trans (hp 7 (by kernel_rfl))
            exact oper_of_step rfl (Kd.R_append_rows_step (ops := #[]) (Kd.int .i32) (Rr := (Kd.int .i32).K W) (w0 := V2) V2.heap.size (wanted_none rfl) (.tmp 56) (.tmp 58) 40 21 (.int .i32 0) 4 rfl Try.underlying40 info21 rfl (by decide) (by omega) (vs 5) [] (x.2.take 60) A2 x.2.length c2 (fun _ => True) (fun _ => False) e56 e58 (hG.h5 (hkd 5 (by kernel_rfl)) hd) (Kd.C_below HN3.out hG.bel) (fun _ _ h => h) (fun _ hk => hk.elim) (fun _ _ => trivial) hG.bel hG.bel.size (by simp <;> omega) (fun v1 w1 ho hbq hg _ => hK _ _ trivial (hG.s8 hd (hkd 5 (by kernel_rfl)) (hkd 4 (by kernel_rfl)) ho hbq hg) trivial))
          · intro hd hp hkd K hK
            refine g_no rfl ?_
            have q4 : True := hp 4 (by kernel_rfl)
            have e55 := i55
            have q8 : True := hp 8 (by kernel_rfl)
            have e59 := i59
            exact st_build rfl (by first | (simp only [List.map_toArray, List.map_cons, List.map_nil, eval_const, e55, e59]; done) | (simp only [List.map_toArray, List.map_cons, List.map_nil, eval_const, e55, e59]; rfl)) (bld42 (R_slc (hG.h4 (hkd 4 (by kernel_rfl)))) (R_slc (hG.h8 (hkd 8 (by kernel_rfl)))) _) (hK _ _ trivial (hG.s9 hd (hkd 8 (by kernel_rfl))) trivial)
          · intro hd hp hkd K hK
            refine g_no rfl ?_
            have q9 : True := hp 9 (by kernel_rfl)
            have e60 := i60.trans (hG.h9 (hkd 9 (by kernel_rfl)))
            exact st_buildSlice rfl (by first | (simp only [List.map_toArray, List.map_cons, List.map_nil, eval_const, e60]; done) | (simp only [List.map_toArray, List.map_cons, List.map_nil, eval_const, e60]; rfl)) (bls23 (R_slc (hG.h4 (hG.d4 (hG.d9 (hkd 9 (by kernel_rfl)))).1)) (R_slc (hG.h8 (hG.d9 (hkd 9 (by kernel_rfl))))) _) (hK _ _ trivial (hG.s10 (hkd 9 (by kernel_rfl))) trivial)
        intro vs W d hG hp hall a9 ha9
        have q0 : vs 0 = _ := hp 0 (by decide)
        have q1 : True := hp 1 (by decide)
        have q4 : True := hp 4 (by decide)
        have q5 : True := hp 5 (by decide)
        have q8 : True := hp 8 (by decide)
        have q9 : True := hp 9 (by decide)
        have q10 : True := hp 10 (by decide)
        clear hp
        simp only [fill, Act.put, List.append_eq, List.cons_append, List.nil_append, List.take_succ_cons, List.take_zero, List.setIfInBounds_toArray, List.set_cons_succ, List.set_cons_zero, Nat.reduceAdd, Nat.zero_add, q0] at ha9
        subst ha9
        simp only [List.append_eq, List.cons_append, List.nil_append, List.drop_succ_cons, List.drop_zero]
        clear q0
        obtain ⟨g10, hv10, hg10, hb10⟩ := hG.h10 (hall 10 (by decide))
        have r4 := hG.h4 (hall 4 (by decide))
        have r8 := hG.h8 (hall 8 (by decide))
        have HBW := Lib.hid hG.bel
        have HFW := Lib.hid (HF5.out.below hG.bel)
        rw [hv10]
        clear hv10 hG hall
        generalize vs 4 = v4 at *
        generalize vs 8 = v8 at *
        have HK := fun (y : List Int × List Int) (ds : List Value) (h : y = fewX x ∧ ds = [v4, v8]) => (show kCo.M W (w.heap.size + 2) (fun k => some k ≠ Value.ownBlock l) y ds from by obtain ⟨rfl, rfl⟩ := h; exact kCo_M (R_okne (Kd.R_lower r4 hsV) (Kd.R_typed HFW.out.r) (by decide)) (R_okne (Kd.R_lower r8 hsV) (Kd.R_typed HFW.out.r) (by decide)))
        have HKH := Lib.hid HK
        have HB10 := Lib.hid hb10
        clear HK r4 r8 hb10
        go_wp2_with ((with_reducible refine gate_builtin (b := .append) (xs := #[.tmp 51, .tmp 61]) rfl ?_); at_builtin; refine Kd.R_append_rows kCo (Rr := fun y ds => y = fewX x ∧ ds = [v4, v8]) (w0 := W) (w.heap.size + 2) rfl (.tmp 51) (.tmp 61) 23 42 (.agg #[.slice none 0 0, .slice none 0 0]) 48 rfl Try.underlying23 info42 rfl (by decide) (by omega) l ((CS.take i).map fewX) [fewX x] (some ⟨g10, 0, none⟩) 1 1 (fun _ => True) (fun k => some k ≠ Value.ownBlock l) rfl rfl HFW.out.r (row_one (cs := [v4, v8]) HB10.out) HKH.out (fun k hk => ⟨trivial, hk⟩) (fun _ _ => trivial) (Below.refl _ _) HFW.out.size (by rw [List.length_map, List.length_take]; omega) ?_; intro v9 w3 ho3 hb3 hg3 hat3; have HS3 := Lib.hid (HFW.out.app ho3 hb3); clear ho3 hb3 hg3 hat3)
        refine HK8.out _ _ ?_; clear HK8
        go_wp2
        exact ⟨loop_frame (by kernel_rfl), ⟨i + 1, by show Value.int .i64 _ = _; simp, by omega, _, rfl, by rw [map_snoc2 HXI.out]; exact HS3.out⟩, Msr.lt (by omega)⟩
end Go.Proofs.Ytieoklpgnmbpjaa.Gr
