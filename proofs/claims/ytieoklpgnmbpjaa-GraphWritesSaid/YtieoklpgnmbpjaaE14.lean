/- A node's numbers. -/
import Derived.Test.YtieoklpgnmbpjaaE11
namespace Go.Proofs.Ytieoklpgnmbpjaa.Gr
open Go.RowKit Dr
open Go.Proofs.YtieoklpgnmbpjaaW.PrintWords (Kd Kd.C Kd.R Kd.M_step Kd.C_below Kd.C_get Kd.R_below Kd.R_reads Kd.R_reads' Kd.R_types Kd.R_step Kd.R_alloc Kd.R_drew Kd.R_lower add_field Kd.R_append Kd.R_bound Kd.R_move Kd.R_mono Kd.R_nil Kd.R_set Kd.R_ne Kd.R_over' Kd.R_typed Kd.C_nil Kd.R_slice Kd.R_append_rows Kd.R_form ReadsRow Kd.C_string)
set_option linter.unusedVariables false
set_option linter.unusedSimpArgs false
set_option maxRecDepth 100000
theorem C_cells {k : IntKind} {W : World} {g o : Nat} {xs : List Int} (h : ∀ (i : Nat) (x : Int), xs[i]? = some x → W.cell? ⟨g, o + i, none⟩ = some (.int k x)) (hl : xs.length ≤ 9223372036854775807) : Kd.C (Kd.int k) W (some ⟨g, o, none⟩) xs.length xs := by
  refine ⟨rfl, hl, fun _ => ⟨_, rfl, fun j p hj => ?_⟩⟩
  refine ⟨[.int k p], rfl, rfl, fun i u hu => ?_⟩
  have : i = 0 := by have := (List.getElem?_eq_some_iff.1 hu).1; simp at this; omega
  subst this
  obtain rfl : Value.int k p = u := by simpa using hu
  have e : Addr.add ⟨g, o, none⟩ (j * (Kd.int k).sz + 0) = ⟨g, o + j, none⟩ := by
    have : j * (Kd.int k).sz = j := Nat.mul_one j
    rw [this]
    simp [go_sem]
  rw [e]
  exact h j p hj
theorem R_fresh {k : IntKind} {W : World} {g t base : Nat} {xs : List Int} (h : W.heap[g]? = some (.cells (xs.map (Value.int k)).toArray t (0, 0))) (hb : base ≤ g) (hl : xs.length ≤ 1000) : Kd.R (Kd.int k) t W base (fun _ => True) (.slice (some ⟨g, 0, none⟩) xs.length xs.length) xs := by
  refine Go.Proofs.YtieoklpgnmbpjaaW.PrintWords.Kd.R_of_own ⟨?_, .inr ⟨g, xs.length, _, rfl, hb, h, Nat.le_refl _, ?_, ?_, ?_⟩⟩ (fun _ _ => trivial)
  · simp [Go.Proofs.YtieoklpgnmbpjaaW.PrintWords.encs]
  · exact Nat.le_trans hl (by decide)
  · simp
  · simp only [Go.Proofs.YtieoklpgnmbpjaaW.PrintWords.encs, Nat.mul_one]
    rw [List.take_of_length_le (by simp)]
def nums (x : List Int) : List Int := [x.getD 0 0, x.getD 1 0, x.getD 2 0, x.getD 3 0, x.getD 4 0, x.getD 5 0, x.getD 6 0, x.getD 7 0, x.getD 8 0, x.getD 9 0, x.getD 10 0, x.getD 11 0, x.getD 12 0, x.getD 13 0, x.getD 14 0, x.getD 15 0, x.getD 16 0, x.getD 17 0, x.getD 18 0, x.getD 19 0, x.getD 20 0, x.getD 21 0, x.getD 22 0, x.getD 23 0, x.getD 24 0, x.getD 25 0, 0]
set_option maxHeartbeats 16000000 in
theorem numbers_row (x0 x1 x2 x3 x4 x5 x6 x7 x8 x9 x10 x11 x12 x13 x14 x15 x16 x17 x18 x19 x20 x21 x22 x23 x24 x25 : Int) (w : World) (h14 : -2147483648 ≤ x14 ∧ x14 ≤ 2147483647) (h15 : -2147483648 ≤ x15 ∧ x15 ≤ 2147483647) :
    Calls Try.prog 15 #[.agg #[.int .i64 x0, .int .i64 x1, .int .i64 x2, .int .i64 x3, .int .i64 x4, .int .i64 x5, .int .i64 x6, .int .i64 x7, .int .i64 x8, .int .i64 x9, .int .i64 x10, .int .i64 x11, .int .i64 x12, .int .i64 x13, .int .i32 x14, .int .i32 x15, .int .i64 x16, .int .i64 x17, .int .i64 x18, .int .i64 x19, .int .i64 x20, .int .i64 x21, .int .i64 x22, .int .i64 x23, .int .i64 x24, .int .i64 x25]] w fun e w' => ∃ v, e = .returned v ∧ Kd.R (Kd.int .i64) 3 w' w.heap.size (fun _ => True) v [x0, x1, x2, x3, x4, x5, x6, x7, x8, x9, x10, x11, x12, x13, x14, x15, x16, x17, x18, x19, x20, x21, x22, x23, x24, x25, 0] ∧ Below w.heap.size w w' := by
  have hbx := blk_new w (.cells #[.int .i64 x0, .int .i64 x1, .int .i64 x2, .int .i64 x3, .int .i64 x4, .int .i64 x5, .int .i64 x6, .int .i64 x7, .int .i64 x8, .int .i64 x9, .int .i64 x10, .int .i64 x11, .int .i64 x12, .int .i64 x13, .int .i32 x14, .int .i32 x15, .int .i64 x16, .int .i64 x17, .int .i64 x18, .int .i64 x19, .int .i64 x20, .int .i64 x21, .int .i64 x22, .int .i64 x23, .int .i64 x24, .int .i64 x25] 55)
  have hB := below_alloc (Below.refl w.heap.size w) (.cells #[.int .i64 x0, .int .i64 x1, .int .i64 x2, .int .i64 x3, .int .i64 x4, .int .i64 x5, .int .i64 x6, .int .i64 x7, .int .i64 x8, .int .i64 x9, .int .i64 x10, .int .i64 x11, .int .i64 x12, .int .i64 x13, .int .i32 x14, .int .i32 x15, .int .i64 x16, .int .i64 x17, .int .i64 x18, .int .i64 x19, .int .i64 x20, .int .i64 x21, .int .i64 x22, .int .i64 x23, .int .i64 x24, .int .i64 x25] 55)
  have w14 : IntKind.i64.wrap x14 = x14 := IntWalk.i64_in _ (by omega)
  have w15 : IntKind.i64.wrap x15 = x15 := IntWalk.i64_in _ (by omega)
  go_enter Try.func15, Try.ntmps15
  apply wp_seq_k; intro K1 hK1; have HK1 := Lib.hid hK1; clear hK1
  go_wp2
  refine HK1.out _ _ ?_; clear HK1
  generalize w.alloc (.cells #[.int .i64 x0, .int .i64 x1, .int .i64 x2, .int .i64 x3, .int .i64 x4, .int .i64 x5, .int .i64 x6, .int .i64 x7, .int .i64 x8, .int .i64 x9, .int .i64 x10, .int .i64 x11, .int .i64 x12, .int .i64 x13, .int .i32 x14, .int .i32 x15, .int .i64 x16, .int .i64 x17, .int .i64 x18, .int .i64 x19, .int .i64 x20, .int .i64 x21, .int .i64 x22, .int .i64 x23, .int .i64 x24, .int .i64 x25] 55) = W1 at *
  have HB := Lib.hid hB
  have HX := Lib.hid hbx
  have hsz := hB.size
  clear hB hbx
  have p0 := (blk_cell HX.out 0).trans (show _ = some (Value.int .i64 x0) from rfl)
  have p1 := (blk_cell HX.out 1).trans (show _ = some (Value.int .i64 x1) from rfl)
  have p2 := (blk_cell HX.out 2).trans (show _ = some (Value.int .i64 x2) from rfl)
  have p3 := (blk_cell HX.out 3).trans (show _ = some (Value.int .i64 x3) from rfl)
  have p4 := (blk_cell HX.out 4).trans (show _ = some (Value.int .i64 x4) from rfl)
  have p5 := (blk_cell HX.out 5).trans (show _ = some (Value.int .i64 x5) from rfl)
  have p6 := (blk_cell HX.out 6).trans (show _ = some (Value.int .i64 x6) from rfl)
  apply wp_seq_k; intro K1 hK1; have HK1 := Lib.hid hK1; clear hK1
  go_wp2
  refine HK1.out _ _ ?_; clear HK1
  clear p0 p1 p2 p3 p4 p5 p6
  have hR : Kd.R (Kd.int .i64) 3 (W1.alloc (.cells (([x0, x1, x2, x3, x4, x5, x6]).map (Value.int .i64)).toArray 3)) w.heap.size (fun _ => True) (.slice (some ⟨W1.heap.size, 0, none⟩) 7 7) [x0, x1, x2, x3, x4, x5, x6] := R_fresh (k := .i64) (xs := [x0, x1, x2, x3, x4, x5, x6]) (base := w.heap.size) (blk_new W1 (.cells (([x0, x1, x2, x3, x4, x5, x6]).map (Value.int .i64)).toArray 3)) hsz (by simp)
  have hX := blk_alloc HX.out (.cells (([x0, x1, x2, x3, x4, x5, x6]).map (Value.int .i64)).toArray 3)
  have hB := HB.out.alloc hsz (.cells (([x0, x1, x2, x3, x4, x5, x6]).map (Value.int .i64)).toArray 3)
  change Code.wp _ _ _ _ (W1.alloc (.cells (([x0, x1, x2, x3, x4, x5, x6]).map (Value.int .i64)).toArray 3))
  generalize W1.alloc (.cells (([x0, x1, x2, x3, x4, x5, x6]).map (Value.int .i64)).toArray 3) = W2 at *
  clear HX HB hsz
  generalize Value.slice (some ⟨W1.heap.size, 0, none⟩) 7 7 = v7 at *
  have HX := Lib.hid hX
  have HB := Lib.hid hB
  have HR := Lib.hid hR
  clear hX hB hR
  skip
  apply wp_seq_k; intro K1 hK1; have HK1 := Lib.hid hK1; clear hK1
  go_wp2_with ((with_reducible refine gate_builtin (b := .append) (xs := #[.tmp 23, .tmp 25]) rfl ?_); at_builtin; refine Kd.R_append_rows (Kd.int .i64) (Rr := (Kd.int .i64).K (W2)) (w0 := w) w.heap.size rfl (.tmp 23) (.tmp 25) 50 3 (.int .i64 0) 8 rfl Try.underlying50 info3 rfl (by decide) (by omega) (v7) ([x0, x1, x2, x3, x4, x5, x6]) ([x7, x8, x9, x10]) (some ⟨w.heap.size, 7, none⟩) 4 4 (fun _ => True) (fun _ => False) rfl rfl (HR.out) (C_cells (g := w.heap.size) (o := 7) (xs := [x7, x8, x9, x10]) (fun i x hx => match i with | 0 => by obtain rfl := Option.some.inj hx; exact (blk_cell HX.out 7).trans rfl | 1 => by obtain rfl := Option.some.inj hx; exact (blk_cell HX.out 8).trans rfl | 2 => by obtain rfl := Option.some.inj hx; exact (blk_cell HX.out 9).trans rfl | 3 => by obtain rfl := Option.some.inj hx; exact (blk_cell HX.out 10).trans rfl | i + 4 => by simp at hx) (by simp)) (fun _ _ h => h) (fun _ hk => hk.elim) (fun _ _ => trivial) (HB.out) (Below.size (HB.out)) (by simp) ?_; intro v8 w8 ho hb hg hat; obtain ⟨Av8, mv8, cv8, rfl⟩ := R_slc ho)
  have hX8 := (hg.block _ (blk_lt HX.out) (Kd.R_ne HR.out HX.out (by decide))).trans HX.out
  clear HX HB HR hg hat
  refine HK1.out _ _ ?_; clear HK1
  have hsz := hb.size
  have p11 := (blk_cell hX8 11).trans (show _ = some (Value.int .i64 x11) from rfl)
  have p12 := (blk_cell hX8 12).trans (show _ = some (Value.int .i64 x12) from rfl)
  have p13 := (blk_cell hX8 13).trans (show _ = some (Value.int .i64 x13) from rfl)
  have p14 := (blk_cell hX8 14).trans (show _ = some (Value.int .i32 x14) from rfl)
  have p15 := (blk_cell hX8 15).trans (show _ = some (Value.int .i32 x15) from rfl)
  have p16 := (blk_cell hX8 16).trans (show _ = some (Value.int .i64 x16) from rfl)
  have p17 := (blk_cell hX8 17).trans (show _ = some (Value.int .i64 x17) from rfl)
  have p18 := (blk_cell hX8 18).trans (show _ = some (Value.int .i64 x18) from rfl)
  have p19 := (blk_cell hX8 19).trans (show _ = some (Value.int .i64 x19) from rfl)
  have p20 := (blk_cell hX8 20).trans (show _ = some (Value.int .i64 x20) from rfl)
  have p21 := (blk_cell hX8 21).trans (show _ = some (Value.int .i64 x21) from rfl)
  have p22 := (blk_cell hX8 22).trans (show _ = some (Value.int .i64 x22) from rfl)
  have HX := Lib.hid hX8
  have HR := Lib.hid ho
  have HB := Lib.hid hb
  clear hX8 ho hb
  apply wp_seq_k; intro K1 hK1; have HK1 := Lib.hid hK1; clear hK1
  go_wp2_with ((with_reducible refine gate_builtin (b := .append) (xs := #[.tmp 27, .tmp 54]) rfl ?_); at_builtin; refine Kd.R_append_rows (Kd.int .i64) (Rr := (Kd.int .i64).K (w8.alloc (.cells (([x11, x12, x13, x14, x15, x16, x17, x18, x19, x20, x21, x22]).map (Value.int .i64)).toArray 3))) (w0 := w) w.heap.size rfl (.tmp 27) (.tmp 54) 50 3 (.int .i64 0) 8 rfl Try.underlying50 info3 rfl (by decide) (by omega) (.slice Av8 mv8 cv8) ([x0, x1, x2, x3, x4, x5, x6] ++ [x7, x8, x9, x10]) ([x11, x12, x13, x14, x15, x16, x17, x18, x19, x20, x21, x22]) (some ⟨w8.heap.size, 0, none⟩) 12 12 (fun _ => True) (fun _ => False) rfl rfl (Kd.R_alloc HR.out _) (C_mk (xs := [x11, x12, x13, x14, x15, x16, x17, x18, x19, x20, x21, x22]) (blk_new _ _) (by simp)) (fun _ _ h => h) (fun _ hk => hk.elim) (fun _ _ => trivial) (HB.out.alloc hsz (.cells (([x11, x12, x13, x14, x15, x16, x17, x18, x19, x20, x21, x22]).map (Value.int .i64)).toArray 3)) (Below.size (HB.out.alloc hsz (.cells (([x11, x12, x13, x14, x15, x16, x17, x18, x19, x20, x21, x22]).map (Value.int .i64)).toArray 3))) (by simp) ?_; intro v9 w9 ho hb hg hat; obtain ⟨Av9, mv9, cv9, rfl⟩ := R_slc ho)
  have hX9 := (hg.block _ (blk_lt (blk_alloc HX.out (.cells (([x11, x12, x13, x14, x15, x16, x17, x18, x19, x20, x21, x22]).map (Value.int .i64)).toArray 3))) (Kd.R_ne (Kd.R_alloc HR.out (.cells (([x11, x12, x13, x14, x15, x16, x17, x18, x19, x20, x21, x22]).map (Value.int .i64)).toArray 3)) (blk_alloc HX.out (.cells (([x11, x12, x13, x14, x15, x16, x17, x18, x19, x20, x21, x22]).map (Value.int .i64)).toArray 3)) (by decide))).trans (blk_alloc HX.out (.cells (([x11, x12, x13, x14, x15, x16, x17, x18, x19, x20, x21, x22]).map (Value.int .i64)).toArray 3))
  clear HX HB HR hg hat hsz p11 p12 p13 p14 p15 p16 p17 p18 p19 p20 p21 p22
  refine HK1.out _ _ ?_; clear HK1
  have hsz := hb.size
  have HX := Lib.hid hX9
  have HR := Lib.hid ho
  have HB := Lib.hid hb
  clear hX9 ho hb
  go_wp2_with (first | ((with_reducible refine gate_builtin (b := .append) (xs := #[.tmp 56, .tmp 58]) rfl ?_); at_builtin; refine Kd.R_append_rows (Kd.int .i64) (Rr := (Kd.int .i64).K (w9)) (w0 := w) w.heap.size rfl (.tmp 56) (.tmp 58) 50 3 (.int .i64 0) 8 rfl Try.underlying50 info3 rfl (by decide) (by omega) (.slice Av9 mv9 cv9) ([x0, x1, x2, x3, x4, x5, x6] ++ [x7, x8, x9, x10] ++ [x11, x12, x13, x14, x15, x16, x17, x18, x19, x20, x21, x22]) ([x23, x24, x25]) (some ⟨w.heap.size, 23, none⟩) 3 3 (fun _ => True) (fun _ => False) rfl rfl (HR.out) (C_cells (g := w.heap.size) (o := 23) (xs := [x23, x24, x25]) (fun i x hx => match i with | 0 => by obtain rfl := Option.some.inj hx; exact (blk_cell HX.out 23).trans rfl | 1 => by obtain rfl := Option.some.inj hx; exact (blk_cell HX.out 24).trans rfl | 2 => by obtain rfl := Option.some.inj hx; exact (blk_cell HX.out 25).trans rfl | i + 3 => by simp at hx) (by simp)) (fun _ _ h => h) (fun _ hk => hk.elim) (fun _ _ => trivial) (HB.out) (Below.size (HB.out)) (by simp) ?_; intro v10 w10 ho hb hg hat; obtain ⟨Av10, mv10, cv10, rfl⟩ := R_slc ho; have HR10 := Lib.hid ho; have HB10 := Lib.hid hb; have hsz10 := hb.size; clear HR HX HB ho hb hg hat) | ((with_reducible refine gate_builtin (b := .append) (xs := #[.tmp 59, .tmp 60]) rfl ?_); at_builtin; refine Kd.R_append_rows (Kd.int .i64) (Rr := (Kd.int .i64).K (w10.alloc (.cells (([0]).map (Value.int .i64)).toArray 3))) (w0 := w) w.heap.size rfl (.tmp 59) (.tmp 60) 50 3 (.int .i64 0) 8 rfl Try.underlying50 info3 rfl (by decide) (by omega) (.slice Av10 mv10 cv10) ([x0, x1, x2, x3, x4, x5, x6] ++ [x7, x8, x9, x10] ++ [x11, x12, x13, x14, x15, x16, x17, x18, x19, x20, x21, x22] ++ [x23, x24, x25]) ([0]) (some ⟨w10.heap.size, 0, none⟩) 1 1 (fun _ => True) (fun _ => False) rfl rfl (Kd.R_alloc HR10.out _) (C_mk (xs := [0]) (blk_new _ _) (by simp)) (fun _ _ h => h) (fun _ hk => hk.elim) (fun _ _ => trivial) (HB10.out.alloc hsz10 (.cells (([0]).map (Value.int .i64)).toArray 3)) (Below.size (HB10.out.alloc hsz10 (.cells (([0]).map (Value.int .i64)).toArray 3))) (by simp) ?_; intro v11 w11 ho hb hg hat; obtain ⟨Av11, mv11, cv11, rfl⟩ := R_slc ho))
  go_wp2
  go_ret
  exact ⟨_, rfl, ho, hb⟩
theorem numbers_is (x : List Int) (w : World) (h14 : -2147483648 ≤ x.getD 14 0 ∧ x.getD 14 0 ≤ 2147483647) (h15 : -2147483648 ≤ x.getD 15 0 ∧ x.getD 15 0 ≤ 2147483647) :
    Calls Try.prog 15 #[.agg (nrow x).toArray] w fun e w' => ∃ v, e = .returned v ∧ Kd.R (Kd.int .i64) 3 w' w.heap.size (fun _ => True) v (nums x) ∧ Below w.heap.size w w' :=
  numbers_row (x.getD 0 0) (x.getD 1 0) (x.getD 2 0) (x.getD 3 0) (x.getD 4 0) (x.getD 5 0) (x.getD 6 0) (x.getD 7 0) (x.getD 8 0) (x.getD 9 0) (x.getD 10 0) (x.getD 11 0) (x.getD 12 0) (x.getD 13 0) (x.getD 14 0) (x.getD 15 0) (x.getD 16 0) (x.getD 17 0) (x.getD 18 0) (x.getD 19 0) (x.getD 20 0) (x.getD 21 0) (x.getD 22 0) (x.getD 23 0) (x.getD 24 0) (x.getD 25 0) w h14 h15
end Go.Proofs.Ytieoklpgnmbpjaa.Gr
