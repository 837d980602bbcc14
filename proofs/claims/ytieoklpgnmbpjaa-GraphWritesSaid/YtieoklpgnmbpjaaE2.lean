/- The reader's numbers. -/
import Derived.Test.YtieoklpgnmbpjaaE1
namespace Go.Proofs.Ytieoklpgnmbpjaa.Gr
open Go.RowKit Dr
open Go.Proofs.YtieoklpgnmbpjaaW.PrintWords (Kd Kd.C Kd.R Kd.C_below Kd.C_get Kd.R_below Kd.R_reads Kd.R_reads' Kd.R_types Kd.R_step Kd.R_alloc Kd.R_drew Kd.R_lower add_field)
set_option linter.unusedVariables false
set_option linter.unusedSimpArgs false
set_option maxRecDepth 100000
theorem ix28 (ad : Addr) (n c i : Nat) (h : i < n) (W : World) : (Instr.indexAt 28 (.slice (some ad) n c) (.int .i64 (i : Int))).run Try.prog W = .ok (.pointer (some (ad.add i))) W := by
  have e : (sizeOf (Try.prog.elem 28)).run Try.prog W = .ok 1 W := by kernel_rfl
  rw [run_indexAt_slice W 28 ad n c .i64 i (by kernel_rfl), if_pos ⟨by omega, by omega⟩, e]
  simp only [Result.andThen_ok, Int.toNat_natCast, Nat.mul_one]
theorem sx_wrap {n : Int} (h : 0 ≤ n ∧ n < 4294967296) : IntKind.i32.wrap n = sx n := by
  unfold sx
  rw [IntKind.wrap_i32]
  split <;> omega
set_option maxHeartbeats 8000000 in
theorem number_is (b g : Nat) (s : List Int × Int) (w : World) (hb : b ≤ g) (ho : okB s.1) (h : RD w b g s) :
    Calls Try.prog 21 #[.pointer (some ⟨g, 0, none⟩)] w fun e w' => e = .returned (.int .i64 (num s).1) ∧ RD w' b g (num s).2 ∧ w.grownBy w' (some g) := by
  have H := Lib.hid h
  clear h
  by_cases hs : s.2 ≠ 0 ∨ s.1.length < 4
  · have et : take 4 s = (none, (s.1, fails 3 s.2)) := by unfold take; rw [if_pos hs]
    have en : num s = (0, (s.1, fails 3 s.2)) := by unfold num; rw [if_pos hs]
    have hq := eq_nil
    rw [en]
    go_enter Try.func21, Try.ntmps21
    go_wp2_with (go_at_call 25; refine (take_is b g s 4 _ hb H.out).mono ?_; rintro e w' ⟨he, hR, hg⟩; rw [et] at he hR; subst he)
    go_wp2
    go_ret
    exact ⟨rfl, hR, hg⟩
  · have et : take 4 s = (some (s.1.take 4), (s.1.drop 4, s.2)) := by unfold take; rw [if_neg hs]
    have en : num s = (le4 s.1, (s.1.drop 4, s.2)) := by unfold num; rw [if_neg hs]
    rw [en]
    obtain ⟨x0, x1, x2, x3, r, hl⟩ := four_of (Nat.le_of_not_lt fun h => hs (.inr h))
    have h0 := ho x0 (by rw [hl]; simp)
    have h1 := ho x1 (by rw [hl]; simp)
    have h2 := ho x2 (by rw [hl]; simp)
    have h3 := ho x3 (by rw [hl]; simp)
    have hq := eq_some
    go_enter Try.func21, Try.ntmps21
    apply wp_seq_k; intro K1 hK1; have HK1 := Lib.hid hK1; clear hK1
    go_wp2
    refine HK1.out _ _ ?_; clear HK1
    apply wp_seq_k; intro K1 hK1; have HK1 := Lib.hid hK1; clear hK1
    go_wp2_with (go_at_call 25; refine (take_is b g s 4 _ hb H.out).mono ?_; rintro e w' ⟨he, hR, hg⟩; rw [et] at he hR; obtain ⟨ad, c, rfl, hc, hab, hC⟩ := he; rw [hl] at hC; have k0 := C_cell hC (i := 0) rfl; have k1 := C_cell hC (i := 1) rfl; have k2 := C_cell hC (i := 2) rfl; have k3 := C_cell hC (i := 3) rfl; clear hC; have elen : (List.take 4 s.1).length = 4 := by rw [hl]; simp)
    refine HK1.out _ _ ?_; clear HK1
    apply wp_seq_k; intro K1 hK1; have HK1 := Lib.hid hK1; clear hK1
    apply wp_seq_k; intro K2 hK2; have HK2 := Lib.hid hK2; clear hK2
    go_wp2
    refine HK2.out _ _ ?_; clear HK2
    apply wp_cond_false rfl
    apply wp_skip
    simp only [Exit.then]
    refine HK1.out _ _ ?_; clear HK1
    have B := Lib.hid (And.intro hR (show b ≤ w'.heap.size by obtain ⟨ad, _, _, _, h3, h4⟩ := H.out; exact Nat.le_trans hb (Nat.le_of_lt (by obtain ⟨_, _, hh, _⟩ := hR; exact blk_lt hh))))
    have BG := Lib.hid hg
    clear hR hg hq et en
    apply wp_seq_k
    intro K1 hK1
    have HK1 := Lib.hid hK1
    clear hK1
    have hle : IntKind.i32.wrap (x0 + x1 * 256 + x2 * 65536 + x3 * 16777216) = le4 s.1 := by
      rw [sx_wrap (by omega), hl]
      show _ = sx _
      congr 1
      omega
    have hlr : -2147483648 ≤ le4 s.1 ∧ le4 s.1 ≤ 2147483647 := by
      rw [← hle, sx_wrap (by omega)]
      unfold sx
      split <;> omega
    refine wp_drawn (R := fun W W' => Below W.heap.size W W') 25 [.val (.slice (some ad) 4 c), .val (.pointer (some (ad.add 0))), .val (.int .u8 x0), .val (.int .u32 x0), .val (.slice (some ad) 4 c), .val (.pointer (some (ad.add 1))), .val (.int .u8 x1), .val (.int .u32 x1), .val (.int .u32 (x1 * 256)), .val (.int .u32 (x0 + x1 * 256)), .val (.slice (some ad) 4 c), .val (.pointer (some (ad.add 2))), .val (.int .u8 x2), .val (.int .u32 x2), .val (.int .u32 (x2 * 65536)), .val (.int .u32 (x0 + x1 * 256 + x2 * 65536)), .val (.slice (some ad) 4 c), .val (.pointer (some (ad.add 3))), .val (.int .u8 x3), .val (.int .u32 x3), .val (.int .u32 (x3 * 16777216)), .val (.int .u32 (x0 + x1 * 256 + x2 * 65536 + x3 * 16777216)), .val (.int .i32 (le4 s.1)), .val (.int .i64 (le4 s.1)), .val (.int .i64 (le4 s.1))] (fun W => Below w'.heap.size w' W) rfl (by kernel_rfl) (Below.refl _ _).drew ?_ ?_
    · intro vs W hG b hb
      have e3 : b.eval (.tmp 3) = .slice (some ad) 4 c := eo hb (by kernel_rfl)
      have i8 := ei (d := 8) hb 0 (by kernel_rfl) rfl rfl (by simp)
      have i9 := ei (d := 9) hb 1 (by kernel_rfl) rfl rfl (by simp)
      have i10 := ei (d := 10) hb 2 (by kernel_rfl) rfl rfl (by simp)
      have i11 := ei (d := 11) hb 3 (by kernel_rfl) rfl rfl (by simp)
      have i12 := ei (d := 12) hb 4 (by kernel_rfl) rfl rfl (by simp)
      have i13 := ei (d := 13) hb 5 (by kernel_rfl) rfl rfl (by simp)
      have i14 := ei (d := 14) hb 6 (by kernel_rfl) rfl rfl (by simp)
      have i15 := ei (d := 15) hb 7 (by kernel_rfl) rfl rfl (by simp)
      have i16 := ei (d := 16) hb 8 (by kernel_rfl) rfl rfl (by simp)
      have i17 := ei (d := 17) hb 9 (by kernel_rfl) rfl rfl (by simp)
      have i18 := ei (d := 18) hb 10 (by kernel_rfl) rfl rfl (by simp)
      have i19 := ei (d := 19) hb 11 (by kernel_rfl) rfl rfl (by simp)
      have i20 := ei (d := 20) hb 12 (by kernel_rfl) rfl rfl (by simp)
      have i21 := ei (d := 21) hb 13 (by kernel_rfl) rfl rfl (by simp)
      have i22 := ei (d := 22) hb 14 (by kernel_rfl) rfl rfl (by simp)
      have i23 := ei (d := 23) hb 15 (by kernel_rfl) rfl rfl (by simp)
      have i24 := ei (d := 24) hb 16 (by kernel_rfl) rfl rfl (by simp)
      have i25 := ei (d := 25) hb 17 (by kernel_rfl) rfl rfl (by simp)
      have i26 := ei (d := 26) hb 18 (by kernel_rfl) rfl rfl (by simp)
      have i27 := ei (d := 27) hb 19 (by kernel_rfl) rfl rfl (by simp)
      have i28 := ei (d := 28) hb 20 (by kernel_rfl) rfl rfl (by simp)
      have i29 := ei (d := 29) hb 21 (by kernel_rfl) rfl rfl (by simp)
      have i30 := ei (d := 30) hb 22 (by kernel_rfl) rfl rfl (by simp)
      have i31 := ei (d := 31) hb 23 (by kernel_rfl) rfl rfl (by simp)
      clear hb
      refine And.intro ?_ (And.intro ?_ (And.intro ?_ (And.intro ?_ (And.intro ?_ (And.intro ?_ (And.intro ?_ (And.intro ?_ (And.intro ?_ (And.intro ?_ (And.intro ?_ (And.intro ?_ (And.intro ?_ (And.intro ?_ (And.intro ?_ (And.intro ?_ (And.intro ?_ (And.intro ?_ (And.intro ?_ (And.intro ?_ (And.intro ?_ (And.intro ?_ (And.intro ?_ (And.intro ?_ (And.intro ?_ (trivial)))))))))))))))))))))))))
      · intro hp K hK
        refine g_no rfl ?_
        exact st_move (.inl rfl) (e3) (hK _ _ rfl hG (Below.refl _ _))
      · intro hp K hK
        refine g_no rfl ?_
        have e8 : b.eval (.tmp 8) = _ := i8.trans (hp 0 (by kernel_rfl))
        exact st_index rfl (e8) (eval_const _) (ix28 ad 4 c 0 (by decide) _) (hK _ _ rfl hG (Below.refl _ _))
      · intro hp K hK
        refine g_no rfl ?_
        have e9 : b.eval (.tmp 9) = _ := i9.trans (hp 1 (by kernel_rfl))
        exact st_load rfl (e9) (ld_cell 5 (by kernel_rfl) ((hG.cell (World.block_lt_of_cell? _ _ k0)).trans k0)) (hK _ _ rfl hG (Below.refl _ _))
      · intro hp K hK
        refine g_no rfl ?_
        have e10 : b.eval (.tmp 10) = _ := i10.trans (hp 2 (by kernel_rfl))
        exact st_conv rfl (e10) (cv_u32 (fun W => by kernel_rfl) h0.1 (by omega) _) (hK _ _ rfl hG (Below.refl _ _))
      · intro hp K hK
        refine g_no rfl ?_
        exact st_move (.inl rfl) (e3) (hK _ _ rfl hG (Below.refl _ _))
      · intro hp K hK
        refine g_no rfl ?_
        have e12 : b.eval (.tmp 12) = _ := i12.trans (hp 4 (by kernel_rfl))
        exact st_index rfl (e12) (eval_const _) (ix28 ad 4 c 1 (by decide) _) (hK _ _ rfl hG (Below.refl _ _))
      · intro hp K hK
        refine g_no rfl ?_
        have e13 : b.eval (.tmp 13) = _ := i13.trans (hp 5 (by kernel_rfl))
        exact st_load rfl (e13) (ld_cell 5 (by kernel_rfl) ((hG.cell (World.block_lt_of_cell? _ _ k1)).trans k1)) (hK _ _ rfl hG (Below.refl _ _))
      · intro hp K hK
        refine g_no rfl ?_
        have e14 : b.eval (.tmp 14) = _ := i14.trans (hp 6 (by kernel_rfl))
        exact st_conv rfl (e14) (cv_u32 (fun W => by kernel_rfl) h1.1 (by omega) _) (hK _ _ rfl hG (Below.refl _ _))
      · intro hp K hK
        refine g_no rfl ?_
        have e15 : b.eval (.tmp 15) = _ := i15.trans (hp 7 (by kernel_rfl))
        exact st_bin rfl (e15) (eval_const _) (sh_u32 (n := 8) (by rw [show (2 : Int) ^ 8 = 256 by decide]; exact IntWalk.u32_in _ (by omega)) (by decide) _) (hK _ _ rfl hG (Below.refl _ _))
      · intro hp K hK
        refine g_no rfl ?_
        have e11 : b.eval (.tmp 11) = _ := i11.trans (hp 3 (by kernel_rfl))
        have e16 : b.eval (.tmp 16) = _ := i16.trans (hp 8 (by kernel_rfl))
        exact st_bin rfl (e11) (e16) (or_u32 (u32_or8 _ _ (by omega) (by omega) (by omega) (by omega) (by omega)) _) (hK _ _ rfl hG (Below.refl _ _))
      · intro hp K hK
        refine g_no rfl ?_
        exact st_move (.inl rfl) (e3) (hK _ _ rfl hG (Below.refl _ _))
      · intro hp K hK
        refine g_no rfl ?_
        have e18 : b.eval (.tmp 18) = _ := i18.trans (hp 10 (by kernel_rfl))
        exact st_index rfl (e18) (eval_const _) (ix28 ad 4 c 2 (by decide) _) (hK _ _ rfl hG (Below.refl _ _))
      · intro hp K hK
        refine g_no rfl ?_
        have e19 : b.eval (.tmp 19) = _ := i19.trans (hp 11 (by kernel_rfl))
        exact st_load rfl (e19) (ld_cell 5 (by kernel_rfl) ((hG.cell (World.block_lt_of_cell? _ _ k2)).trans k2)) (hK _ _ rfl hG (Below.refl _ _))
      · intro hp K hK
        refine g_no rfl ?_
        have e20 : b.eval (.tmp 20) = _ := i20.trans (hp 12 (by kernel_rfl))
        exact st_conv rfl (e20) (cv_u32 (fun W => by kernel_rfl) h2.1 (by omega) _) (hK _ _ rfl hG (Below.refl _ _))
      · intro hp K hK
        refine g_no rfl ?_
        have e21 : b.eval (.tmp 21) = _ := i21.trans (hp 13 (by kernel_rfl))
        exact st_bin rfl (e21) (eval_const _) (sh_u32 (n := 16) (by rw [show (2 : Int) ^ 16 = 65536 by decide]; exact IntWalk.u32_in _ (by omega)) (by decide) _) (hK _ _ rfl hG (Below.refl _ _))
      · intro hp K hK
        refine g_no rfl ?_
        have e17 : b.eval (.tmp 17) = _ := i17.trans (hp 9 (by kernel_rfl))
        have e22 : b.eval (.tmp 22) = _ := i22.trans (hp 14 (by kernel_rfl))
        exact st_bin rfl (e17) (e22) (or_u32 (u32_or16 _ _ (by omega) (by omega) (by omega) (by omega) (by omega)) _) (hK _ _ rfl hG (Below.refl _ _))
      · intro hp K hK
        refine g_no rfl ?_
        exact st_move (.inl rfl) (e3) (hK _ _ rfl hG (Below.refl _ _))
      · intro hp K hK
        refine g_no rfl ?_
        have e24 : b.eval (.tmp 24) = _ := i24.trans (hp 16 (by kernel_rfl))
        exact st_index rfl (e24) (eval_const _) (ix28 ad 4 c 3 (by decide) _) (hK _ _ rfl hG (Below.refl _ _))
      · intro hp K hK
        refine g_no rfl ?_
        have e25 : b.eval (.tmp 25) = _ := i25.trans (hp 17 (by kernel_rfl))
        exact st_load rfl (e25) (ld_cell 5 (by kernel_rfl) ((hG.cell (World.block_lt_of_cell? _ _ k3)).trans k3)) (hK _ _ rfl hG (Below.refl _ _))
      · intro hp K hK
        refine g_no rfl ?_
        have e26 : b.eval (.tmp 26) = _ := i26.trans (hp 18 (by kernel_rfl))
        exact st_conv rfl (e26) (cv_u32 (fun W => by kernel_rfl) h3.1 (by omega) _) (hK _ _ rfl hG (Below.refl _ _))
      · intro hp K hK
        refine g_no rfl ?_
        have e27 : b.eval (.tmp 27) = _ := i27.trans (hp 19 (by kernel_rfl))
        exact st_bin rfl (e27) (eval_const _) (sh_u32 (n := 24) (by rw [show (2 : Int) ^ 24 = 16777216 by decide]; exact IntWalk.u32_in _ (by omega)) (by decide) _) (hK _ _ rfl hG (Below.refl _ _))
      · intro hp K hK
        refine g_no rfl ?_
        have e23 : b.eval (.tmp 23) = _ := i23.trans (hp 15 (by kernel_rfl))
        have e28 : b.eval (.tmp 28) = _ := i28.trans (hp 20 (by kernel_rfl))
        exact st_bin rfl (e23) (e28) (or_u32 (u32_or24 _ _ (by omega) (by omega) (by omega) (by omega) (by omega)) _) (hK _ _ rfl hG (Below.refl _ _))
      · intro hp K hK
        refine g_no rfl ?_
        have e29 : b.eval (.tmp 29) = _ := i29.trans (hp 21 (by kernel_rfl))
        exact st_conv rfl (e29) (show (convert 60 21 (.int .u32 (x0 + x1 * 256 + x2 * 65536 + x3 * 16777216))).run Try.prog _ = _ by rw [show (convert 60 21 (.int .u32 (x0 + x1 * 256 + x2 * 65536 + x3 * 16777216))).run Try.prog W = .ok (.int .i32 (IntKind.i32.wrap (x0 + x1 * 256 + x2 * 65536 + x3 * 16777216))) W by kernel_rfl, hle]) (hK _ _ rfl hG (Below.refl _ _))
      · intro hp K hK
        refine g_no rfl ?_
        have e30 : b.eval (.tmp 30) = _ := i30.trans (hp 22 (by kernel_rfl))
        exact st_conv rfl (e30) (by rw [show (convert 21 3 (.int .i32 (le4 s.1))).run Try.prog W = .ok (.int .i64 (IntKind.i64.wrap (le4 s.1))) W by kernel_rfl, IntWalk.i64_in _ (by omega)]) (hK _ _ rfl hG (Below.refl _ _))
      · intro hp K hK
        refine g_no rfl ?_
        have e31 : b.eval (.tmp 31) = _ := i31.trans (hp 23 (by kernel_rfl))
        exact st_move (.inr rfl) (e31) (hK _ _ rfl hG (Below.refl _ _))
    intro vs W hG hp b hb
    have q24 : vs 24 = _ := hp 24 (by decide)
    clear hp
    simp only [fill, Act.put, List.append_eq, List.cons_append, List.nil_append, List.take_succ_cons, List.take_zero, List.setIfInBounds_toArray, List.set_cons_succ, List.set_cons_zero, Nat.reduceAdd, Nat.zero_add, q24] at hb
    subst hb
    refine wpList_nil ?_
    clear q24
    refine HK1.out _ _ ?_
    clear HK1
    go_wp2
    go_ret
    exact ⟨rfl, RD_step B.out.1 (hG.mono B.out.2) (hG.block _ (by have := B.out.1; obtain ⟨_, _, hh, _⟩ := this; exact blk_lt hh)), grown_trans BG.out (grown_below hG _)⟩
end Go.Proofs.Ytieoklpgnmbpjaa.Gr
