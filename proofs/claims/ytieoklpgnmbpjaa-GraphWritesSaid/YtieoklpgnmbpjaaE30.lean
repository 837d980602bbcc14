/- The document's Word and Nums. -/
import Derived.Test.YtieoklpgnmbpjaaE12
import Derived.Test.YtieoklpgnmbpjaaE14
namespace Go.Proofs.Ytieoklpgnmbpjaa.Gr
open Go.RowKit Dr
open Go.Proofs.YtieoklpgnmbpjaaW.PrintWords (Kd Kd.C Kd.R Kd.M_step Kd.C_below Kd.C_get Kd.R_below Kd.R_reads Kd.R_reads' Kd.R_types Kd.R_step Kd.R_alloc Kd.R_drew Kd.R_lower add_field Kd.R_append Kd.R_bound Kd.R_move Kd.R_mono Kd.R_nil Kd.R_set Kd.R_ne Kd.R_over' Kd.R_typed Kd.C_nil Kd.R_slice Kd.R_append_rows Kd.R_form ReadsRow Kd.C_string)
set_option linter.unusedVariables false
set_option linter.unusedSimpArgs false
set_option maxRecDepth 100000
/-- A piece of code that may write some slots: what follows need not know what it wrote there. -/
theorem wp_seqS {P : Program} {Q : Exit → Act → World → Prop} {a : Act} {w : World} {x y : Code} (ws : List Tmp) (I : (Tmp → Value) → World → Prop)
    (h1 : x.wp P (Exit.then (fun a' W' => (∃ vs, a' = setSlots ws vs a) ∧ I (Slot a') W') Q) a w) (h2 : ∀ vs W b, b = setSlots ws vs a → I (Slot b) W → y.wp P Q b W) : (Code.seq x y).wp P Q a w := by
  refine wp_seq_k fun K hK => Code.wp_mono ?_ h1
  intro e a2 w2 q
  cases e with
  | normal => obtain ⟨⟨vs, h⟩, hI⟩ := q; exact hK _ _ (h2 vs _ _ h hI)
  | _ => exact q
theorem rem_u32 {x n r : Int} {p q : Operand} (h0 : n ≠ 0) (h : 0 ≤ x) (e : x % n = r) (W : World) : (do eqGuard .rem 60 p q (.int .u32 x) (.int .u32 n); binOp .rem 60 (.int .u32 x) (.int .u32 n) : Sem Value).run Try.prog W = .ok (.int .u32 r) W := b_rem h0 (by rw [Int.tmod_eq_emod_of_nonneg h]; exact e)
theorem quo_u32 {x n r : Int} {p q : Operand} (h0 : 0 < n) (h : 0 ≤ x) (e : x / n = r) (hr : 0 ≤ r ∧ r ≤ 4294967295) (W : World) : (do eqGuard .quo 60 p q (.int .u32 x) (.int .u32 n); binOp .quo 60 (.int .u32 x) (.int .u32 n) : Sem Value).run Try.prog W = .ok (.int .u32 r) W := b_quo (by omega) (by rw [Int.tdiv_eq_ediv_of_nonneg h, e, IntWalk.u32_in _ hr])
set_option maxHeartbeats 16000000 in
theorem word_is (x : Int) (w : World) : Calls Try.prog 17 #[.int .u32 (x % 4294967296)] w fun e w' => ∃ gg, e = .returned (.slice (some ⟨gg, 0, none⟩) 4 4) ∧ w'.heap[gg]? = some (.cells ((w32 x).map (Value.int .u8)).toArray 5 (0, 0)) ∧ Below w.heap.size w w' := by
  obtain ⟨y, hy⟩ : ∃ y, x % 4294967296 = y := ⟨_, rfl⟩
  have hw : w32 x = [y % 256, y / 256 % 256, y / 65536 % 256, y / 16777216 % 256] := by rw [← hy]; rfl
  rw [hw, hy]
  have hy2 : 0 ≤ y ∧ y < 4294967296 := by omega
  clear hw hy
  go_enter Try.func17, Try.ntmps17
  apply wp_seq_k; intro K1 hK1; have HK1 := Lib.hid hK1; clear hK1
  go_wp2
  refine HK1.out _ _ ?_; clear HK1
  apply wp_seq_k; intro K1 hK1; have HK1 := Lib.hid hK1; clear hK1
  refine wp_listed (R := fun W W' => Below W.heap.size W W') 15 [.val (.int .u32 y), .val (.int .u32 (y % 256)), .val (.int .u8 (y % 256)), .val (.int .u32 y), .val (.int .u32 (y / 256)), .val (.int .u32 (y / 256 % 256)), .val (.int .u8 (y / 256 % 256)), .val (.int .u32 y), .val (.int .u32 (y / 65536)), .val (.int .u32 (y / 65536 % 256)), .val (.int .u8 (y / 65536 % 256)), .val (.int .u32 y), .val (.int .u32 (y / 16777216)), .val (.int .u8 (y / 16777216 % 256)), newB #[.int .u8 (y % 256), .int .u8 (y / 256 % 256), .int .u8 (y / 65536 % 256), .int .u8 (y / 16777216 % 256)] 5 4] (fun W => Below w.heap.size w W) (by kernel_rfl) (Below.refl _ _) ?_ ?_
  · intro vs W hG a1 ha1
    have e0 : a1.eval (.tmp 0) = .int .u32 y := eo ha1 (by kernel_rfl)
    have i3 := ei (d := 3) ha1 0 (by kernel_rfl) rfl rfl (by simp)
    have i4 := ei (d := 4) ha1 1 (by kernel_rfl) rfl rfl (by simp)
    have i5 := ei (d := 5) ha1 2 (by kernel_rfl) rfl rfl (by simp)
    have i6 := ei (d := 6) ha1 3 (by kernel_rfl) rfl rfl (by simp)
    have i7 := ei (d := 7) ha1 4 (by kernel_rfl) rfl rfl (by simp)
    have i8 := ei (d := 8) ha1 5 (by kernel_rfl) rfl rfl (by simp)
    have i9 := ei (d := 9) ha1 6 (by kernel_rfl) rfl rfl (by simp)
    have i10 := ei (d := 10) ha1 7 (by kernel_rfl) rfl rfl (by simp)
    have i11 := ei (d := 11) ha1 8 (by kernel_rfl) rfl rfl (by simp)
    have i12 := ei (d := 12) ha1 9 (by kernel_rfl) rfl rfl (by simp)
    have i13 := ei (d := 13) ha1 10 (by kernel_rfl) rfl rfl (by simp)
    have i14 := ei (d := 14) ha1 11 (by kernel_rfl) rfl rfl (by simp)
    have i15 := ei (d := 15) ha1 12 (by kernel_rfl) rfl rfl (by simp)
    have i16 := ei (d := 16) ha1 13 (by kernel_rfl) rfl rfl (by simp)
    clear ha1
    refine And.intro ?_ (And.intro ?_ (And.intro ?_ (And.intro ?_ (And.intro ?_ (And.intro ?_ (And.intro ?_ (And.intro ?_ (And.intro ?_ (And.intro ?_ (And.intro ?_ (And.intro ?_ (And.intro ?_ (And.intro ?_ (And.intro ?_ (trivial)))))))))))))))
    · intro hp K hK
      refine g_no rfl ?_
      exact st_move (.inl rfl) (e0) (hK _ _ rfl hG (Below.refl _ _))
    · intro hp K hK
      refine g_no rfl ?_
      have e3 : a1.eval (.tmp 3) = _ := i3.trans (hp 0 (by kernel_rfl))
      exact st_bin rfl (e3) (eval_const _) (rem_u32 (by decide) hy2.1 rfl _) (hK _ _ rfl hG (Below.refl _ _))
    · intro hp K hK
      refine g_no rfl ?_
      have e4 : a1.eval (.tmp 4) = _ := i4.trans (hp 1 (by kernel_rfl))
      exact st_conv rfl (e4) (by rw [cv8, Int.emod_emod_of_dvd _ (by decide)]) (hK _ _ rfl hG (Below.refl _ _))
    · intro hp K hK
      refine g_no rfl ?_
      exact st_move (.inl rfl) (e0) (hK _ _ rfl hG (Below.refl _ _))
    · intro hp K hK
      refine g_no rfl ?_
      have e6 : a1.eval (.tmp 6) = _ := i6.trans (hp 3 (by kernel_rfl))
      exact st_bin rfl (e6) (eval_const _) (quo_u32 (by decide) hy2.1 rfl (by omega) _) (hK _ _ rfl hG (Below.refl _ _))
    · intro hp K hK
      refine g_no rfl ?_
      have e7 : a1.eval (.tmp 7) = _ := i7.trans (hp 4 (by kernel_rfl))
      exact st_bin rfl (e7) (eval_const _) (rem_u32 (by decide) (by omega) rfl _) (hK _ _ rfl hG (Below.refl _ _))
    · intro hp K hK
      refine g_no rfl ?_
      have e8 : a1.eval (.tmp 8) = _ := i8.trans (hp 5 (by kernel_rfl))
      exact st_conv rfl (e8) (by rw [cv8, Int.emod_emod_of_dvd _ (by decide)]) (hK _ _ rfl hG (Below.refl _ _))
    · intro hp K hK
      refine g_no rfl ?_
      exact st_move (.inl rfl) (e0) (hK _ _ rfl hG (Below.refl _ _))
    · intro hp K hK
      refine g_no rfl ?_
      have e10 : a1.eval (.tmp 10) = _ := i10.trans (hp 7 (by kernel_rfl))
      exact st_bin rfl (e10) (eval_const _) (quo_u32 (by decide) hy2.1 rfl (by omega) _) (hK _ _ rfl hG (Below.refl _ _))
    · intro hp K hK
      refine g_no rfl ?_
      have e11 : a1.eval (.tmp 11) = _ := i11.trans (hp 8 (by kernel_rfl))
      exact st_bin rfl (e11) (eval_const _) (rem_u32 (by decide) (by omega) rfl _) (hK _ _ rfl hG (Below.refl _ _))
    · intro hp K hK
      refine g_no rfl ?_
      have e12 : a1.eval (.tmp 12) = _ := i12.trans (hp 9 (by kernel_rfl))
      exact st_conv rfl (e12) (by rw [cv8, Int.emod_emod_of_dvd _ (by decide)]) (hK _ _ rfl hG (Below.refl _ _))
    · intro hp K hK
      refine g_no rfl ?_
      exact st_move (.inl rfl) (e0) (hK _ _ rfl hG (Below.refl _ _))
    · intro hp K hK
      refine g_no rfl ?_
      have e14 : a1.eval (.tmp 14) = _ := i14.trans (hp 11 (by kernel_rfl))
      exact st_bin rfl (e14) (eval_const _) (quo_u32 (by decide) hy2.1 rfl (by omega) _) (hK _ _ rfl hG (Below.refl _ _))
    · intro hp K hK
      refine g_no rfl ?_
      have e15 : a1.eval (.tmp 15) = _ := i15.trans (hp 12 (by kernel_rfl))
      exact st_conv rfl (e15) (cv8 _ _) (hK _ _ rfl hG (Below.refl _ _))
    · intro hp K hK
      refine g_no rfl ?_
      have e5 : a1.eval (.tmp 5) = _ := i5.trans (hp 2 (by kernel_rfl))
      have e9 : a1.eval (.tmp 9) = _ := i9.trans (hp 6 (by kernel_rfl))
      have e13 : a1.eval (.tmp 13) = _ := i13.trans (hp 10 (by kernel_rfl))
      have e16 : a1.eval (.tmp 16) = _ := i16.trans (hp 13 (by kernel_rfl))
      exact st_buildSlice rfl (by first | (simp only [List.map_toArray, List.map_cons, List.map_nil, eval_const, e5, e9, e13, e16]; done) | (simp only [List.map_toArray, List.map_cons, List.map_nil, eval_const, e5, e9, e13, e16]; rfl)) (by kernel_rfl) (hK _ _ ⟨_, rfl, blk_new _ _⟩ (below_alloc hG _) (below_alloc (Below.refl _ _) _))
  intro vs W hG hp a1 ha1
  have q14 : ∃ gg, (vs 14) = .slice (some ⟨gg, 0, none⟩) 4 4 ∧ W.heap[gg]? = some (.cells #[.int .u8 (y % 256), .int .u8 (y / 256 % 256), .int .u8 (y / 65536 % 256), .int .u8 (y / 16777216 % 256)] 5 (0, 0)) := hp 14 (by decide)
  clear hp
  simp only [fill, Act.put, List.append_eq, List.cons_append, List.nil_append, List.take_succ_cons, List.take_zero, List.setIfInBounds_toArray, List.set_cons_succ, List.set_cons_zero, Nat.reduceAdd, Nat.zero_add] at ha1
  subst ha1
  simp only [List.append_eq, List.cons_append, List.nil_append, List.drop_succ_cons, List.drop_zero]
  obtain ⟨gg, hv, hgg⟩ := q14
  rw [hv]
  clear hv
  go_wp2
  refine HK1.out _ _ ?_; clear HK1
  go_wp2
  go_ret
  exact ⟨gg, rfl, hgg, hG⟩
set_option maxHeartbeats 16000000 in
theorem nums_row (x0 x1 x2 x3 x4 x5 x6 x7 x8 x9 x10 x11 x12 x13 x14 x15 x16 x17 x18 x19 x20 x21 x22 x23 x24 x25 : Int) (w : World) (h14 : -2147483648 ≤ x14 ∧ x14 ≤ 2147483647) (h15 : -2147483648 ≤ x15 ∧ x15 ≤ 2147483647) :
    Calls Try.prog 18 #[.agg #[.int .i64 x0, .int .i64 x1, .int .i64 x2, .int .i64 x3, .int .i64 x4, .int .i64 x5, .int .i64 x6, .int .i64 x7, .int .i64 x8, .int .i64 x9, .int .i64 x10, .int .i64 x11, .int .i64 x12, .int .i64 x13, .int .i32 x14, .int .i32 x15, .int .i64 x16, .int .i64 x17, .int .i64 x18, .int .i64 x19, .int .i64 x20, .int .i64 x21, .int .i64 x22, .int .i64 x23, .int .i64 x24, .int .i64 x25]] w fun e w' => ∃ gg, e = .returned (.slice (some ⟨gg, 0, none⟩) 27 27) ∧ w'.heap[gg]? = some (.cells (([x0, x1, x2, x3, x4, x5, x6, x7, x8, x9, x10, x11, x12, x13, x14, x15, x16, x17, x18, x19, x20, x21, x22, x23, x24, x25, 0] : List Int).map (Value.int .i64)).toArray 3 (0, 0)) ∧ Below w.heap.size w w' := by
  have hbx := blk_new w (.cells #[.int .i64 x0, .int .i64 x1, .int .i64 x2, .int .i64 x3, .int .i64 x4, .int .i64 x5, .int .i64 x6, .int .i64 x7, .int .i64 x8, .int .i64 x9, .int .i64 x10, .int .i64 x11, .int .i64 x12, .int .i64 x13, .int .i32 x14, .int .i32 x15, .int .i64 x16, .int .i64 x17, .int .i64 x18, .int .i64 x19, .int .i64 x20, .int .i64 x21, .int .i64 x22, .int .i64 x23, .int .i64 x24, .int .i64 x25] 55)
  have hB := below_alloc (Below.refl w.heap.size w) (.cells #[.int .i64 x0, .int .i64 x1, .int .i64 x2, .int .i64 x3, .int .i64 x4, .int .i64 x5, .int .i64 x6, .int .i64 x7, .int .i64 x8, .int .i64 x9, .int .i64 x10, .int .i64 x11, .int .i64 x12, .int .i64 x13, .int .i32 x14, .int .i32 x15, .int .i64 x16, .int .i64 x17, .int .i64 x18, .int .i64 x19, .int .i64 x20, .int .i64 x21, .int .i64 x22, .int .i64 x23, .int .i64 x24, .int .i64 x25] 55)
  have w14 : IntKind.i64.wrap x14 = x14 := IntWalk.i64_in _ (by omega)
  have w15 : IntKind.i64.wrap x15 = x15 := IntWalk.i64_in _ (by omega)
  go_enter Try.func18, Try.ntmps18
  apply wp_seq_k; intro K1 hK1; have HK1 := Lib.hid hK1; clear hK1
  go_wp2
  refine HK1.out _ _ ?_; clear HK1
  generalize w.alloc (.cells #[.int .i64 x0, .int .i64 x1, .int .i64 x2, .int .i64 x3, .int .i64 x4, .int .i64 x5, .int .i64 x6, .int .i64 x7, .int .i64 x8, .int .i64 x9, .int .i64 x10, .int .i64 x11, .int .i64 x12, .int .i64 x13, .int .i32 x14, .int .i32 x15, .int .i64 x16, .int .i64 x17, .int .i64 x18, .int .i64 x19, .int .i64 x20, .int .i64 x21, .int .i64 x22, .int .i64 x23, .int .i64 x24, .int .i64 x25] 55) = W1 at *
  have HB := Lib.hid hB
  have HX := Lib.hid hbx
  clear hB hbx
  have p0 := (blk_cell HX.out 0).trans (show _ = some (Value.int .i64 x0) from rfl)
  have p1 := (blk_cell HX.out 1).trans (show _ = some (Value.int .i64 x1) from rfl)
  have p2 := (blk_cell HX.out 2).trans (show _ = some (Value.int .i64 x2) from rfl)
  have p3 := (blk_cell HX.out 3).trans (show _ = some (Value.int .i64 x3) from rfl)
  have p4 := (blk_cell HX.out 4).trans (show _ = some (Value.int .i64 x4) from rfl)
  have p5 := (blk_cell HX.out 5).trans (show _ = some (Value.int .i64 x5) from rfl)
  have p6 := (blk_cell HX.out 6).trans (show _ = some (Value.int .i64 x6) from rfl)
  have p7 := (blk_cell HX.out 7).trans (show _ = some (Value.int .i64 x7) from rfl)
  have p8 := (blk_cell HX.out 8).trans (show _ = some (Value.int .i64 x8) from rfl)
  have p9 := (blk_cell HX.out 9).trans (show _ = some (Value.int .i64 x9) from rfl)
  have p10 := (blk_cell HX.out 10).trans (show _ = some (Value.int .i64 x10) from rfl)
  have p11 := (blk_cell HX.out 11).trans (show _ = some (Value.int .i64 x11) from rfl)
  have p12 := (blk_cell HX.out 12).trans (show _ = some (Value.int .i64 x12) from rfl)
  have p13 := (blk_cell HX.out 13).trans (show _ = some (Value.int .i64 x13) from rfl)
  have p14 := (blk_cell HX.out 14).trans (show _ = some (Value.int .i32 x14) from rfl)
  have p15 := (blk_cell HX.out 15).trans (show _ = some (Value.int .i32 x15) from rfl)
  have p16 := (blk_cell HX.out 16).trans (show _ = some (Value.int .i64 x16) from rfl)
  have p17 := (blk_cell HX.out 17).trans (show _ = some (Value.int .i64 x17) from rfl)
  have p18 := (blk_cell HX.out 18).trans (show _ = some (Value.int .i64 x18) from rfl)
  have p19 := (blk_cell HX.out 19).trans (show _ = some (Value.int .i64 x19) from rfl)
  have p20 := (blk_cell HX.out 20).trans (show _ = some (Value.int .i64 x20) from rfl)
  have p21 := (blk_cell HX.out 21).trans (show _ = some (Value.int .i64 x21) from rfl)
  have p22 := (blk_cell HX.out 22).trans (show _ = some (Value.int .i64 x22) from rfl)
  have p23 := (blk_cell HX.out 23).trans (show _ = some (Value.int .i64 x23) from rfl)
  have p24 := (blk_cell HX.out 24).trans (show _ = some (Value.int .i64 x24) from rfl)
  have p25 := (blk_cell HX.out 25).trans (show _ = some (Value.int .i64 x25) from rfl)
  apply wp_seq_k; intro K1 hK1; have HK1 := Lib.hid hK1; clear hK1
  go_wp2
  refine HK1.out _ _ ?_; clear HK1
  go_wp2
  go_ret
  exact ⟨W1.heap.size, rfl, blk_new W1 (.cells #[.int .i64 x0, .int .i64 x1, .int .i64 x2, .int .i64 x3, .int .i64 x4, .int .i64 x5, .int .i64 x6, .int .i64 x7, .int .i64 x8, .int .i64 x9, .int .i64 x10, .int .i64 x11, .int .i64 x12, .int .i64 x13, .int .i64 x14, .int .i64 x15, .int .i64 x16, .int .i64 x17, .int .i64 x18, .int .i64 x19, .int .i64 x20, .int .i64 x21, .int .i64 x22, .int .i64 x23, .int .i64 x24, .int .i64 x25, .int .i64 0] 3), below_alloc HB.out _⟩
theorem nums_r (x : List Int) (w : World) (h14 : -2147483648 ≤ x.getD 14 0 ∧ x.getD 14 0 ≤ 2147483647) (h15 : -2147483648 ≤ x.getD 15 0 ∧ x.getD 15 0 ≤ 2147483647) :
    Calls Try.prog 18 #[.agg (nrow x).toArray] w fun e w' => ∃ gg, e = .returned (.slice (some ⟨gg, 0, none⟩) 27 27) ∧ w'.heap[gg]? = some (.cells ((nums x).map (Value.int .i64)).toArray 3 (0, 0)) ∧ Below w.heap.size w w' :=
  nums_row (x.getD 0 0) (x.getD 1 0) (x.getD 2 0) (x.getD 3 0) (x.getD 4 0) (x.getD 5 0) (x.getD 6 0) (x.getD 7 0) (x.getD 8 0) (x.getD 9 0) (x.getD 10 0) (x.getD 11 0) (x.getD 12 0) (x.getD 13 0) (x.getD 14 0) (x.getD 15 0) (x.getD 16 0) (x.getD 17 0) (x.getD 18 0) (x.getD 19 0) (x.getD 20 0) (x.getD 21 0) (x.getD 22 0) (x.getD 23 0) (x.getD 24 0) (x.getD 25 0) w h14 h15
end Go.Proofs.Ytieoklpgnmbpjaa.Gr
