/- iwd: a plain function with the same answers as the program's, and the proof of it, as a program has written them. -/
import Derived.Test.YtihecimbhhlhaaaRsG1
import Derived.Test.YtihecimbhhlhaaaRsInstOf
import Derived.Test.YtihecimbhhlhaaaRsG2
import Derived.Test.YtihecimbhhlhaaaRsMc
namespace Go.Proofs.Ytihecimbhhlhaaa.PRs
open Go.RowKit Go.Proofs.YtihecimbhhlhaaaW.PrintWords Go.Proofs.YtihecimbhhlhaaaW.PrintLast Go.Proofs.YtihecimbhhlhaaaW.PrintMore
set_option linter.unusedVariables false
set_option linter.unusedSimpArgs false
attribute [local go_sem high] eqA32
/-! ### iwd: function 40 -/
def iwd.j0 : Nat → Bool → Int → Int → Int → Int → Int → Int → Int → Int → Int → Bool → Bool → Bool → Bool → Option (Int × Bool)
 | 0, _, _, _, _, _, _, _, _, _, _, _, _, _, _ => none
 | k + 1, x46, x164000, x164001, x164002, x164003, x164004, x174000, x174001, x174002, x174003, x174004, x174005, x174006, x174007 => if x46 = true then (some (0, false)) else (if x174007 = true then (if x164004 ≥ 0 then (some (Go.bits .or .u32 (Go.bits .or .u32 (Go.bits .or .u32 (Go.bits .or .u32 (Go.bits .or .u32 (Go.bits .or .u32 x174000 ((x174001 * 4096) % 4294967296)) ((x174002 * 33554432) % 4294967296)) ((((x164001) % 4294967296) * 128) % 4294967296)) ((((x164002) % 4294967296) * 32768) % 4294967296)) ((((x164003) % 4294967296) * 1048576) % 4294967296)) ((((x164004) % 4294967296) * 1048576) % 4294967296), decide (x164004 < 32))) else (some (Go.bits .or .u32 (Go.bits .or .u32 (Go.bits .or .u32 (Go.bits .or .u32 (Go.bits .or .u32 (Go.bits .or .u32 x174000 ((x174001 * 4096) % 4294967296)) ((x174002 * 33554432) % 4294967296)) ((((x164001) % 4294967296) * 128) % 4294967296)) ((((x164002) % 4294967296) * 32768) % 4294967296)) ((((x164003) % 4294967296) * 1048576) % 4294967296)) ((((x164004) % 4294967296) * 1048576) % 4294967296), false))) else (if x174003 = 0 then (some (Go.bits .or .u32 (Go.bits .or .u32 (Go.bits .or .u32 (Go.bits .or .u32 (Go.bits .or .u32 x174000 ((x174001 * 4096) % 4294967296)) ((x174002 * 33554432) % 4294967296)) ((((x164001) % 4294967296) * 128) % 4294967296)) ((((x164002) % 4294967296) * 32768) % 4294967296)) ((((x164003) % 4294967296) * 1048576) % 4294967296), (x164004 == 0))) else ((imm_Put.f k x174003 x164004).bind fun bt177 => (some (Go.bits .or .u32 (Go.bits .or .u32 (Go.bits .or .u32 (Go.bits .or .u32 (Go.bits .or .u32 (Go.bits .or .u32 x174000 ((x174001 * 4096) % 4294967296)) ((x174002 * 33554432) % 4294967296)) ((((x164001) % 4294967296) * 128) % 4294967296)) ((((x164002) % 4294967296) * 32768) % 4294967296)) ((((x164003) % 4294967296) * 1048576) % 4294967296)) bt177.1, bt177.2)))))
def iwd.f (k : Nat) (a0_0 : Int) (a0_1 : Int) (a0_2 : Int) (a0_3 : Int) (a0_4 : Int) : Option (Int × Bool) := if (a0_0 == 47 && (a0_1 == 0 && (a0_2 == 0 && (a0_3 == 0 && (a0_4 == 0))))) = true then (some (115, true)) else (if (a0_0 == 48 && (a0_1 == 0 && (a0_2 == 0 && (a0_3 == 0 && (a0_4 == 0))))) = true then (some (1048691, true)) else ((inst_of.f k a0_0).bind fun bt164 => (if bt164.2.2.2.2.2.2.2.2 = true then ((inst_fits.f a0_1 bt164.2.2.2.2.1).bind fun t174 => (if t174 = true then ((inst_fits.f a0_2 bt164.2.2.2.2.2.1).bind fun t175 => (if t175 = true then ((inst_fits.f a0_3 bt164.2.2.2.2.2.2.1).bind fun t176 => (iwd.j0 k (!t176) a0_0 a0_1 a0_2 a0_3 a0_4 bt164.1 bt164.2.1 bt164.2.2.1 bt164.2.2.2.1 bt164.2.2.2.2.1 bt164.2.2.2.2.2.1 bt164.2.2.2.2.2.2.1 bt164.2.2.2.2.2.2.2.1)) else (iwd.j0 k true a0_0 a0_1 a0_2 a0_3 a0_4 bt164.1 bt164.2.1 bt164.2.2.1 bt164.2.2.2.1 bt164.2.2.2.2.1 bt164.2.2.2.2.2.1 bt164.2.2.2.2.2.2.1 bt164.2.2.2.2.2.2.2.1))) else (iwd.j0 k true a0_0 a0_1 a0_2 a0_3 a0_4 bt164.1 bt164.2.1 bt164.2.2.1 bt164.2.2.2.1 bt164.2.2.2.2.1 bt164.2.2.2.2.2.1 bt164.2.2.2.2.2.2.1 bt164.2.2.2.2.2.2.2.1))) else (iwd.j0 k true a0_0 a0_1 a0_2 a0_3 a0_4 bt164.1 bt164.2.1 bt164.2.2.1 bt164.2.2.2.1 bt164.2.2.2.2.1 bt164.2.2.2.2.2.1 bt164.2.2.2.2.2.2.1 bt164.2.2.2.2.2.2.2.1))))
theorem lfxRsInstWord0 {P : Prop} (h : P := by
 simp only [Option.some.injEq, Prod.mk.injEq] at H
 obtain ⟨rfl, rfl⟩ := H
 go_enter Try.func40, Try.ntmps40
 go_wp2_with (first | ((with_reducible refine gate_dst (N := 1) rfl ?_); refine box_event ?hg (N := 1) ?hd (cs := #[.int .i64 a0_0, .int .i64 a0_1, .int .i64 a0_2, .int .i64 a0_3, .int .i32 a0_4]) (t := 32) ?hr ?_; (case hd => rfl); (case hg => rfl); (case hr => exact m_14); intro gb_0 hg w_1 hbox hb; have n_2 := Aside0.mk (below_step (m_0) hb); have n_3 := Aside0.mk (hbox); have n_4 := Aside0.mk ((m_21 : w.heap.size ≤ gb_0)); have n_5 := Aside0.mk ((m_21 : w.heap.size ≤ gb_0)); clear HB; have HB := n_2; have BK_6 := n_3; have GW_7 := n_4; have GE_8 := n_5; clear n_2 n_3 n_4 n_5; clear hb hbox hg; obtain ⟨hcz_9, hcz_10, hcz_11, hcz_12, hcz_13, hfz_14, hfz_15, hfz_16, hfz_17, hfz_18⟩ := cz5 (w := w_1) BK_6.out))
 repeat (go_quiet (first | ((with_reducible refine gate_dst (N := 1) rfl ?_); refine box_event ?hg (N := 1) ?hd (cs := #[.int .i64 a0_0, .int .i64 a0_1, .int .i64 a0_2, .int .i64 a0_3, .int .i32 a0_4]) (t := 32) ?hr ?_; (case hd => rfl); (case hg => rfl); (case hr => exact m_14); intro gb_0 hg w_1 hbox hb; have n_2 := Aside0.mk (below_step (m_0) hb); have n_3 := Aside0.mk (hbox); have n_4 := Aside0.mk ((m_21 : w.heap.size ≤ gb_0)); have n_5 := Aside0.mk ((m_21 : w.heap.size ≤ gb_0)); clear HB; have HB := n_2; have BK_6 := n_3; have GW_7 := n_4; have GE_8 := n_5; clear n_2 n_3 n_4 n_5; clear hb hbox hg; obtain ⟨hcz_9, hcz_10, hcz_11, hcz_12, hcz_13, hfz_14, hfz_15, hfz_16, hfz_17, hfz_18⟩ := cz5 (w := w_1) BK_6.out)); try go_wp2_with (first | ((with_reducible refine gate_dst (N := 1) rfl ?_); refine box_event ?hg (N := 1) ?hd (cs := #[.int .i64 a0_0, .int .i64 a0_1, .int .i64 a0_2, .int .i64 a0_3, .int .i32 a0_4]) (t := 32) ?hr ?_; (case hd => rfl); (case hg => rfl); (case hr => exact m_14); intro gb_0 hg w_1 hbox hb; have n_2 := Aside0.mk (below_step (m_0) hb); have n_3 := Aside0.mk (hbox); have n_4 := Aside0.mk ((m_21 : w.heap.size ≤ gb_0)); have n_5 := Aside0.mk ((m_21 : w.heap.size ≤ gb_0)); clear HB; have HB := n_2; have BK_6 := n_3; have GW_7 := n_4; have GE_8 := n_5; clear n_2 n_3 n_4 n_5; clear hb hbox hg; obtain ⟨hcz_9, hcz_10, hcz_11, hcz_12, hcz_13, hfz_14, hfz_15, hfz_16, hfz_17, hfz_18⟩ := cz5 (w := w_1) BK_6.out)))
 go_ret2
 exact ⟨m_3, m_18⟩) : P := h
theorem lfxRsInstWord1 {P : Prop} (h : P := by
 simp only [Option.some.injEq, Prod.mk.injEq] at H
 obtain ⟨rfl, rfl⟩ := H
 have hnb_0 := NB173_163.out
 have hnc_1 := NB163_173.out
 obtain ⟨hcz_2, hcz_3, hcz_4, hcz_5, hcz_6, hcz_7, hcz_8, hcz_9, hfz_10, hfz_11, hfz_12, hfz_13, hfz_14, hfz_15, hfz_16, hfz_17⟩ := cz8 (w := wc) BK173.out
 obtain ⟨hcz_18, hcz_19, hcz_20, hcz_21, hcz_22, hfz_23, hfz_24, hfz_25, hfz_26, hfz_27⟩ := cz5 (w := wc) BK163.out
 go_wp2
 repeat (go_quiet (fail); try go_wp2)
 go_ret2
 exact ⟨m_3, m_24⟩) : P := h
set_option maxHeartbeats 8000000 in
set_option maxRecDepth 100000 in
theorem iwd.calls (k : Nat) (a0_0 : Int) (a0_1 : Int) (a0_2 : Int) (a0_3 : Int) (a0_4 : Int) (r1 : Int) (r2 : Bool) (w : World) (h : iwd.f k a0_0 a0_1 a0_2 a0_3 a0_4 = some (r1, r2)) :
 Calls Try.prog 40 #[.agg #[.int .i64 a0_0, .int .i64 a0_1, .int .i64 a0_2, .int .i64 a0_3, .int .i32 a0_4]] w fun e w' => e = .returned (.tuple #[.int .u32 r1, .bool r2]) ∧ Below w.heap.size w w' := by
 have hu32 := Try.underlying32
 have hu88 := Try.underlying88
 have HB := Aside0.mk (Below.refl w.heap.size w)
 have H : (if (a0_0 == 47 && (a0_1 == 0 && (a0_2 == 0 && (a0_3 == 0 && (a0_4 == 0))))) = true then (some (115, true)) else (if (a0_0 == 48 && (a0_1 == 0 && (a0_2 == 0 && (a0_3 == 0 && (a0_4 == 0))))) = true then (some (1048691, true)) else ((inst_of.f k a0_0).bind fun bt164 => (if bt164.2.2.2.2.2.2.2.2 = true then ((inst_fits.f a0_1 bt164.2.2.2.2.1).bind fun t174 => (if t174 = true then ((inst_fits.f a0_2 bt164.2.2.2.2.2.1).bind fun t175 => (if t175 = true then ((inst_fits.f a0_3 bt164.2.2.2.2.2.2.1).bind fun t176 => (iwd.j0 k (!t176) a0_0 a0_1 a0_2 a0_3 a0_4 bt164.1 bt164.2.1 bt164.2.2.1 bt164.2.2.2.1 bt164.2.2.2.2.1 bt164.2.2.2.2.2.1 bt164.2.2.2.2.2.2.1 bt164.2.2.2.2.2.2.2.1)) else (iwd.j0 k true a0_0 a0_1 a0_2 a0_3 a0_4 bt164.1 bt164.2.1 bt164.2.2.1 bt164.2.2.2.1 bt164.2.2.2.2.1 bt164.2.2.2.2.2.1 bt164.2.2.2.2.2.2.1 bt164.2.2.2.2.2.2.2.1))) else (iwd.j0 k true a0_0 a0_1 a0_2 a0_3 a0_4 bt164.1 bt164.2.1 bt164.2.2.1 bt164.2.2.2.1 bt164.2.2.2.2.1 bt164.2.2.2.2.2.1 bt164.2.2.2.2.2.2.1 bt164.2.2.2.2.2.2.2.1))) else (iwd.j0 k true a0_0 a0_1 a0_2 a0_3 a0_4 bt164.1 bt164.2.1 bt164.2.2.1 bt164.2.2.2.1 bt164.2.2.2.2.1 bt164.2.2.2.2.2.1 bt164.2.2.2.2.2.2.1 bt164.2.2.2.2.2.2.2.1))))) = some (r1, r2) := h
 clear h
 by_cases c2 : (a0_0 == 47 && (a0_1 == 0 && (a0_2 == 0 && (a0_3 == 0 && (a0_4 == 0))))) = true
 · rw [if_pos c2] at H
   have c2b0 : (a0_0 == 47 && (a0_1 == 0 && (a0_2 == 0 && (a0_3 == 0 && (a0_4 == 0))))) = true := c2
   (try (have c2b1 : decide (a0_0 = 47 && (a0_1 == 0 && (a0_2 == 0 && (a0_3 == 0 && (a0_4 == 0))))) = true := by simpa using c2))
   (try (have c2b2 : (a0_0 == 47 && (a0_1 == 0 && (a0_2 == 0 && (a0_3 == 0 && (a0_4 == 0))))) = true := by simpa using c2))
   clear c2
   exact lfxRsInstWord0
 · rw [if_neg c2] at H
   have c2b0 : (a0_0 == 47 && (a0_1 == 0 && (a0_2 == 0 && (a0_3 == 0 && (a0_4 == 0))))) = false := by simpa using c2
   (try (have c2b1 : decide (a0_0 = 47 && (a0_1 == 0 && (a0_2 == 0 && (a0_3 == 0 && (a0_4 == 0))))) = false := by simpa using c2))
   (try (have c2b2 : (a0_0 == 47 && (a0_1 == 0 && (a0_2 == 0 && (a0_3 == 0 && (a0_4 == 0))))) = false := by simpa using c2))
   (try (have c2b3 : ¬ (a0_0 = 47 && (a0_1 == 0 && (a0_2 == 0 && (a0_3 == 0 && (a0_4 == 0))))) := by simpa using c2))
   clear c2
   by_cases c5 : (a0_0 == 48 && (a0_1 == 0 && (a0_2 == 0 && (a0_3 == 0 && (a0_4 == 0))))) = true
   · rw [if_pos c5] at H
     have c5b0 : (a0_0 == 48 && (a0_1 == 0 && (a0_2 == 0 && (a0_3 == 0 && (a0_4 == 0))))) = true := c5
     (try (have c5b1 : decide (a0_0 = 48 && (a0_1 == 0 && (a0_2 == 0 && (a0_3 == 0 && (a0_4 == 0))))) = true := by simpa using c5))
     (try (have c5b2 : (a0_0 == 48 && (a0_1 == 0 && (a0_2 == 0 && (a0_3 == 0 && (a0_4 == 0))))) = true := by simpa using c5))
     clear c5
     exact lfxRsInstWord0
   · rw [if_neg c5] at H
     have c5b0 : (a0_0 == 48 && (a0_1 == 0 && (a0_2 == 0 && (a0_3 == 0 && (a0_4 == 0))))) = false := by simpa using c5
     (try (have c5b1 : decide (a0_0 = 48 && (a0_1 == 0 && (a0_2 == 0 && (a0_3 == 0 && (a0_4 == 0))))) = false := by simpa using c5))
     (try (have c5b2 : (a0_0 == 48 && (a0_1 == 0 && (a0_2 == 0 && (a0_3 == 0 && (a0_4 == 0))))) = false := by simpa using c5))
     (try (have c5b3 : ¬ (a0_0 = 48 && (a0_1 == 0 && (a0_2 == 0 && (a0_3 == 0 && (a0_4 == 0))))) := by simpa using c5))
     clear c5
     replace H := Option.bind_eq_some_iff.mp H
     obtain ⟨⟨t164, t165, t166, t167, t168, t169, t170, t171, t172⟩, A80, H⟩ := H
     replace H : (if t172 = true then ((inst_fits.f a0_1 t168).bind fun t174 => (if t174 = true then ((inst_fits.f a0_2 t169).bind fun t175 => (if t175 = true then ((inst_fits.f a0_3 t170).bind fun t176 => (iwd.j0 k (!t176) a0_0 a0_1 a0_2 a0_3 a0_4 t164 t165 t166 t167 t168 t169 t170 t171)) else (iwd.j0 k true a0_0 a0_1 a0_2 a0_3 a0_4 t164 t165 t166 t167 t168 t169 t170 t171))) else (iwd.j0 k true a0_0 a0_1 a0_2 a0_3 a0_4 t164 t165 t166 t167 t168 t169 t170 t171))) else (iwd.j0 k true a0_0 a0_1 a0_2 a0_3 a0_4 t164 t165 t166 t167 t168 t169 t170 t171)) = some (r1, r2) := H
     have A8 := Aside0.mk A80
     clear A80
     have HC9 := Aside0.mk H
     clear H
     go_enter Try.func40, Try.ntmps40
     go_upto_region 7 with (first | ((with_reducible refine gate_dst (N := 1) rfl ?_); refine box_event ?hg (N := 1) ?hd (cs := #[.int .i64 a0_0, .int .i64 a0_1, .int .i64 a0_2, .int .i64 a0_3, .int .i32 a0_4]) (t := 32) ?hr ?_; (case hd => rfl); (case hg => rfl); (case hr => exact m_14); intro gb163 hg w10 hbox hb; have n0_ := Aside0.mk (below_step (m_0) hb); have n1_ := Aside0.mk (hbox); have n2_ := Aside0.mk ((m_21 : w.heap.size ≤ gb163)); have n3_ := Aside0.mk ((m_21 : w.heap.size ≤ gb163)); clear HB; have HB := n0_; have BK163 := n1_; have GW163 := n2_; have GE163 := n3_; clear n0_ n1_ n2_ n3_; clear hb hbox hg; obtain ⟨hcz11_0, hcz11_1, hcz11_2, hcz11_3, hcz11_4, hfz11_0, hfz11_1, hfz11_2, hfz11_3, hfz11_4⟩ := cz5 (w := w10) BK163.out) | (go_at_call 47; (with_reducible refine (inst_of.calls k a0_0 t164 t165 t166 t167 t168 t169 t170 t171 t172 _ A8.out).mono ?_); rintro e w12 ⟨rfl, hb⟩; have n0_ := Aside0.mk (blk_below (g := gb163) (o := .cells #[.int .i64 a0_0, .int .i64 a0_1, .int .i64 a0_2, .int .i64 a0_3, .int .i32 a0_4] 32 (0, 0)) (m_28) hb); have n1_ := Aside0.mk (below_step (m_23) hb); clear BK163; clear HB; have BK163 := n0_; have HB := n1_; clear n0_ n1_; (try clear hb); (try clear hb2); (try clear hk); (try clear hi)) | ((with_reducible refine gate_dst (N := 4) rfl ?_); refine box_event ?hg (N := 4) ?hd (cs := #[.int .u32 0, .int .u32 0, .int .u32 0, .int .i64 0, .bool false, .bool false, .bool false, .bool false]) (t := 88) ?hr ?_; (case hd => rfl); (case hg => rfl); (case hr => exact m_14); intro gb173 hg w13 hbox hb; have n0_ := Aside0.mk (blk_below (g := gb163) (o := .cells #[.int .i64 a0_0, .int .i64 a0_1, .int .i64 a0_2, .int .i64 a0_3, .int .i32 a0_4] 32 (0, 0)) (m_28) hb); have n1_ := Aside0.mk (below_step (m_23) hb); have n2_ := Aside0.mk (hbox); have n3_ := Aside0.mk ((by rw [hg]; exact (below_size (m_23)) : w.heap.size ≤ gb173)); have n4_ := Aside0.mk ((by rw [hg]; exact (below_size (m_23)) : w.heap.size ≤ gb173)); have n5_ := Aside0.mk ((m_67 : gb163 ≠ gb173)); have n6_ := Aside0.mk ((m_68 : gb173 ≠ gb163)); clear BK163; clear HB; have BK163 := n0_; have HB := n1_; have BK173 := n2_; have GW173 := n3_; have GE173 := n4_; have NB163_173 := n5_; have NB173_163 := n6_; clear n0_ n1_ n2_ n3_ n4_ n5_ n6_; clear hb hbox hg; have hnb14 := NB173_163.out; have hnc14 := NB163_173.out; obtain ⟨hcz15_0, hcz15_1, hcz15_2, hcz15_3, hcz15_4, hcz15_5, hcz15_6, hcz15_7, hfz15_0, hfz15_1, hfz15_2, hfz15_3, hfz15_4, hfz15_5, hfz15_6, hfz15_7⟩ := cz8 (w := w13) BK173.out))
     repeat (go_quiet (first | ((with_reducible refine gate_dst (N := 1) rfl ?_); refine box_event ?hg (N := 1) ?hd (cs := #[.int .i64 a0_0, .int .i64 a0_1, .int .i64 a0_2, .int .i64 a0_3, .int .i32 a0_4]) (t := 32) ?hr ?_; (case hd => rfl); (case hg => rfl); (case hr => exact m_14); intro gb163 hg w10 hbox hb; have n0_ := Aside0.mk (below_step (m_0) hb); have n1_ := Aside0.mk (hbox); have n2_ := Aside0.mk ((m_21 : w.heap.size ≤ gb163)); have n3_ := Aside0.mk ((m_21 : w.heap.size ≤ gb163)); clear HB; have HB := n0_; have BK163 := n1_; have GW163 := n2_; have GE163 := n3_; clear n0_ n1_ n2_ n3_; clear hb hbox hg; obtain ⟨hcz11_0, hcz11_1, hcz11_2, hcz11_3, hcz11_4, hfz11_0, hfz11_1, hfz11_2, hfz11_3, hfz11_4⟩ := cz5 (w := w10) BK163.out) | (go_at_call 47; (with_reducible refine (inst_of.calls k a0_0 t164 t165 t166 t167 t168 t169 t170 t171 t172 _ A8.out).mono ?_); rintro e w12 ⟨rfl, hb⟩; have n0_ := Aside0.mk (blk_below (g := gb163) (o := .cells #[.int .i64 a0_0, .int .i64 a0_1, .int .i64 a0_2, .int .i64 a0_3, .int .i32 a0_4] 32 (0, 0)) (m_28) hb); have n1_ := Aside0.mk (below_step (m_23) hb); clear BK163; clear HB; have BK163 := n0_; have HB := n1_; clear n0_ n1_; (try clear hb); (try clear hb2); (try clear hk); (try clear hi)) | ((with_reducible refine gate_dst (N := 4) rfl ?_); refine box_event ?hg (N := 4) ?hd (cs := #[.int .u32 0, .int .u32 0, .int .u32 0, .int .i64 0, .bool false, .bool false, .bool false, .bool false]) (t := 88) ?hr ?_; (case hd => rfl); (case hg => rfl); (case hr => exact m_14); intro gb173 hg w13 hbox hb; have n0_ := Aside0.mk (blk_below (g := gb163) (o := .cells #[.int .i64 a0_0, .int .i64 a0_1, .int .i64 a0_2, .int .i64 a0_3, .int .i32 a0_4] 32 (0, 0)) (m_28) hb); have n1_ := Aside0.mk (below_step (m_23) hb); have n2_ := Aside0.mk (hbox); have n3_ := Aside0.mk ((by rw [hg]; exact (below_size (m_23)) : w.heap.size ≤ gb173)); have n4_ := Aside0.mk ((by rw [hg]; exact (below_size (m_23)) : w.heap.size ≤ gb173)); have n5_ := Aside0.mk ((m_67 : gb163 ≠ gb173)); have n6_ := Aside0.mk ((m_68 : gb173 ≠ gb163)); clear BK163; clear HB; have BK163 := n0_; have HB := n1_; have BK173 := n2_; have GW173 := n3_; have GE173 := n4_; have NB163_173 := n5_; have NB173_163 := n6_; clear n0_ n1_ n2_ n3_ n4_ n5_ n6_; clear hb hbox hg; have hnb14 := NB173_163.out; have hnc14 := NB163_173.out; obtain ⟨hcz15_0, hcz15_1, hcz15_2, hcz15_3, hcz15_4, hcz15_5, hcz15_6, hcz15_7, hfz15_0, hfz15_1, hfz15_2, hfz15_3, hfz15_4, hfz15_5, hfz15_6, hfz15_7⟩ := cz8 (w := w13) BK173.out)); go_upto_region 7 with (first | ((with_reducible refine gate_dst (N := 1) rfl ?_); refine box_event ?hg (N := 1) ?hd (cs := #[.int .i64 a0_0, .int .i64 a0_1, .int .i64 a0_2, .int .i64 a0_3, .int .i32 a0_4]) (t := 32) ?hr ?_; (case hd => rfl); (case hg => rfl); (case hr => exact m_14); intro gb163 hg w10 hbox hb; have n0_ := Aside0.mk (below_step (m_0) hb); have n1_ := Aside0.mk (hbox); have n2_ := Aside0.mk ((m_21 : w.heap.size ≤ gb163)); have n3_ := Aside0.mk ((m_21 : w.heap.size ≤ gb163)); clear HB; have HB := n0_; have BK163 := n1_; have GW163 := n2_; have GE163 := n3_; clear n0_ n1_ n2_ n3_; clear hb hbox hg; obtain ⟨hcz11_0, hcz11_1, hcz11_2, hcz11_3, hcz11_4, hfz11_0, hfz11_1, hfz11_2, hfz11_3, hfz11_4⟩ := cz5 (w := w10) BK163.out) | (go_at_call 47; (with_reducible refine (inst_of.calls k a0_0 t164 t165 t166 t167 t168 t169 t170 t171 t172 _ A8.out).mono ?_); rintro e w12 ⟨rfl, hb⟩; have n0_ := Aside0.mk (blk_below (g := gb163) (o := .cells #[.int .i64 a0_0, .int .i64 a0_1, .int .i64 a0_2, .int .i64 a0_3, .int .i32 a0_4] 32 (0, 0)) (m_28) hb); have n1_ := Aside0.mk (below_step (m_23) hb); clear BK163; clear HB; have BK163 := n0_; have HB := n1_; clear n0_ n1_; (try clear hb); (try clear hb2); (try clear hk); (try clear hi)) | ((with_reducible refine gate_dst (N := 4) rfl ?_); refine box_event ?hg (N := 4) ?hd (cs := #[.int .u32 0, .int .u32 0, .int .u32 0, .int .i64 0, .bool false, .bool false, .bool false, .bool false]) (t := 88) ?hr ?_; (case hd => rfl); (case hg => rfl); (case hr => exact m_14); intro gb173 hg w13 hbox hb; have n0_ := Aside0.mk (blk_below (g := gb163) (o := .cells #[.int .i64 a0_0, .int .i64 a0_1, .int .i64 a0_2, .int .i64 a0_3, .int .i32 a0_4] 32 (0, 0)) (m_28) hb); have n1_ := Aside0.mk (below_step (m_23) hb); have n2_ := Aside0.mk (hbox); have n3_ := Aside0.mk ((by rw [hg]; exact (below_size (m_23)) : w.heap.size ≤ gb173)); have n4_ := Aside0.mk ((by rw [hg]; exact (below_size (m_23)) : w.heap.size ≤ gb173)); have n5_ := Aside0.mk ((m_67 : gb163 ≠ gb173)); have n6_ := Aside0.mk ((m_68 : gb173 ≠ gb163)); clear BK163; clear HB; have BK163 := n0_; have HB := n1_; have BK173 := n2_; have GW173 := n3_; have GE173 := n4_; have NB163_173 := n5_; have NB173_163 := n6_; clear n0_ n1_ n2_ n3_ n4_ n5_ n6_; clear hb hbox hg; have hnb14 := NB173_163.out; have hnc14 := NB163_173.out; obtain ⟨hcz15_0, hcz15_1, hcz15_2, hcz15_3, hcz15_4, hcz15_5, hcz15_6, hcz15_7, hfz15_0, hfz15_1, hfz15_2, hfz15_3, hfz15_4, hfz15_5, hfz15_6, hfz15_7⟩ := cz8 (w := w13) BK173.out)))
     (try simp only [Act.put, List.setIfInBounds_toArray, List.set_cons_zero, List.set_cons_succ])
     go_cut [46] (fun v46 wc => ∃ (kq : Nat) (x46_8 : Bool), v46 = .bool x46_8 ∧ Aside0 (iwd.j0 kq x46_8 a0_0 a0_1 a0_2 a0_3 a0_4 t164 t165 t166 t167 t168 t169 t170 t171 = some (r1, r2)) ∧ Aside0 (kq ≤ k) ∧ Aside0 (wc.heap[gb163]? = some (.cells #[.int .i64 a0_0, .int .i64 a0_1, .int .i64 a0_2, .int .i64 a0_3, .int .i32 a0_4] 32 (0, 0))) ∧ Aside0 (wc.heap[gb173]? = some (.cells #[.int .u32 t164, .int .u32 t165, .int .u32 t166, .int .i64 t167, .bool t168, .bool t169, .bool t170, .bool t171] 88 (0, 0))) ∧ Aside0 (Below w.heap.size w wc))
     case first =>
      have H := HC9.out
      clear HC9
      by_cases c16 : t172 = true
      · subst c16
        have H1 : ((inst_fits.f a0_1 t168).bind fun t174 => (if t174 = true then ((inst_fits.f a0_2 t169).bind fun t175 => (if t175 = true then ((inst_fits.f a0_3 t170).bind fun t176 => (iwd.j0 k (!t176) a0_0 a0_1 a0_2 a0_3 a0_4 t164 t165 t166 t167 t168 t169 t170 t171)) else (iwd.j0 k true a0_0 a0_1 a0_2 a0_3 a0_4 t164 t165 t166 t167 t168 t169 t170 t171))) else (iwd.j0 k true a0_0 a0_1 a0_2 a0_3 a0_4 t164 t165 t166 t167 t168 t169 t170 t171))) = some (r1, r2) := by rw [if_pos rfl] at H; exact H
        clear H
        have H := H1
        clear H1
        replace H := Option.bind_eq_some_iff.mp H
        obtain ⟨t174, A170, H⟩ := H
        replace H : (if t174 = true then ((inst_fits.f a0_2 t169).bind fun t175 => (if t175 = true then ((inst_fits.f a0_3 t170).bind fun t176 => (iwd.j0 k (!t176) a0_0 a0_1 a0_2 a0_3 a0_4 t164 t165 t166 t167 t168 t169 t170 t171)) else (iwd.j0 k true a0_0 a0_1 a0_2 a0_3 a0_4 t164 t165 t166 t167 t168 t169 t170 t171))) else (iwd.j0 k true a0_0 a0_1 a0_2 a0_3 a0_4 t164 t165 t166 t167 t168 t169 t170 t171)) = some (r1, r2) := H
        have A17 := Aside0.mk A170
        clear A170
        by_cases c18 : t174 = true
        · subst c18
          have H1 : ((inst_fits.f a0_2 t169).bind fun t175 => (if t175 = true then ((inst_fits.f a0_3 t170).bind fun t176 => (iwd.j0 k (!t176) a0_0 a0_1 a0_2 a0_3 a0_4 t164 t165 t166 t167 t168 t169 t170 t171)) else (iwd.j0 k true a0_0 a0_1 a0_2 a0_3 a0_4 t164 t165 t166 t167 t168 t169 t170 t171))) = some (r1, r2) := by rw [if_pos rfl] at H; exact H
          clear H
          have H := H1
          clear H1
          replace H := Option.bind_eq_some_iff.mp H
          obtain ⟨t175, A190, H⟩ := H
          replace H : (if t175 = true then ((inst_fits.f a0_3 t170).bind fun t176 => (iwd.j0 k (!t176) a0_0 a0_1 a0_2 a0_3 a0_4 t164 t165 t166 t167 t168 t169 t170 t171)) else (iwd.j0 k true a0_0 a0_1 a0_2 a0_3 a0_4 t164 t165 t166 t167 t168 t169 t170 t171)) = some (r1, r2) := H
          have A19 := Aside0.mk A190
          clear A190
          by_cases c20 : t175 = true
          · subst c20
            have H1 : ((inst_fits.f a0_3 t170).bind fun t176 => (iwd.j0 k (!t176) a0_0 a0_1 a0_2 a0_3 a0_4 t164 t165 t166 t167 t168 t169 t170 t171)) = some (r1, r2) := by rw [if_pos rfl] at H; exact H
            clear H
            have H := H1
            clear H1
            replace H := Option.bind_eq_some_iff.mp H
            obtain ⟨t176, A210, H⟩ := H
            replace H : (iwd.j0 k (!t176) a0_0 a0_1 a0_2 a0_3 a0_4 t164 t165 t166 t167 t168 t169 t170 t171) = some (r1, r2) := H
            have A21 := Aside0.mk A210
            clear A210
            have H' := Aside0.mk H
            clear H
            have hnb22 := NB163_173.out
            have hnc22 := NB173_163.out
            obtain ⟨hcz23_0, hcz23_1, hcz23_2, hcz23_3, hcz23_4, hfz23_0, hfz23_1, hfz23_2, hfz23_3, hfz23_4⟩ := cz5 (w := w13) BK163.out
            obtain ⟨hcz24_0, hcz24_1, hcz24_2, hcz24_3, hcz24_4, hcz24_5, hcz24_6, hcz24_7, hfz24_0, hfz24_1, hfz24_2, hfz24_3, hfz24_4, hfz24_5, hfz24_6, hfz24_7⟩ := cz8 (w := w13) BK173.out
            go_wp2_with (first | (go_at_call 48; (with_reducible refine (inst_fits.calls a0_1 t168 true _ A17.out).mono ?_); rintro e w' ⟨rfl, ⟨nd, rfl⟩⟩; (try first | exact ⟨rfl, _, World.drewN_drewN _ _ _⟩ | exact ⟨rfl, _, Eq.trans (World.drewN_drewN _ _ _) (congrArg (World.drewN _) (Nat.add_assoc _ _ _))⟩)) | (go_at_call 48; (with_reducible refine (inst_fits.calls a0_2 t169 true _ A19.out).mono ?_); rintro e w' ⟨rfl, ⟨nd, rfl⟩⟩; (try first | exact ⟨rfl, _, World.drewN_drewN _ _ _⟩ | exact ⟨rfl, _, Eq.trans (World.drewN_drewN _ _ _) (congrArg (World.drewN _) (Nat.add_assoc _ _ _))⟩)) | (go_at_call 48; (with_reducible refine (inst_fits.calls a0_3 t170 t176 _ A21.out).mono ?_); rintro e w' ⟨rfl, ⟨nd, rfl⟩⟩; (try first | exact ⟨rfl, _, World.drewN_drewN _ _ _⟩ | exact ⟨rfl, _, Eq.trans (World.drewN_drewN _ _ _) (congrArg (World.drewN _) (Nat.add_assoc _ _ _))⟩)))
            repeat (go_quiet (first | (go_at_call 48; (with_reducible refine (inst_fits.calls a0_1 t168 true _ A17.out).mono ?_); rintro e w' ⟨rfl, ⟨nd, rfl⟩⟩; (try first | exact ⟨rfl, _, World.drewN_drewN _ _ _⟩ | exact ⟨rfl, _, Eq.trans (World.drewN_drewN _ _ _) (congrArg (World.drewN _) (Nat.add_assoc _ _ _))⟩)) | (go_at_call 48; (with_reducible refine (inst_fits.calls a0_2 t169 true _ A19.out).mono ?_); rintro e w' ⟨rfl, ⟨nd, rfl⟩⟩; (try first | exact ⟨rfl, _, World.drewN_drewN _ _ _⟩ | exact ⟨rfl, _, Eq.trans (World.drewN_drewN _ _ _) (congrArg (World.drewN _) (Nat.add_assoc _ _ _))⟩)) | (go_at_call 48; (with_reducible refine (inst_fits.calls a0_3 t170 t176 _ A21.out).mono ?_); rintro e w' ⟨rfl, ⟨nd, rfl⟩⟩; (try first | exact ⟨rfl, _, World.drewN_drewN _ _ _⟩ | exact ⟨rfl, _, Eq.trans (World.drewN_drewN _ _ _) (congrArg (World.drewN _) (Nat.add_assoc _ _ _))⟩))); try go_wp2_with (first | (go_at_call 48; (with_reducible refine (inst_fits.calls a0_1 t168 true _ A17.out).mono ?_); rintro e w' ⟨rfl, ⟨nd, rfl⟩⟩; (try first | exact ⟨rfl, _, World.drewN_drewN _ _ _⟩ | exact ⟨rfl, _, Eq.trans (World.drewN_drewN _ _ _) (congrArg (World.drewN _) (Nat.add_assoc _ _ _))⟩)) | (go_at_call 48; (with_reducible refine (inst_fits.calls a0_2 t169 true _ A19.out).mono ?_); rintro e w' ⟨rfl, ⟨nd, rfl⟩⟩; (try first | exact ⟨rfl, _, World.drewN_drewN _ _ _⟩ | exact ⟨rfl, _, Eq.trans (World.drewN_drewN _ _ _) (congrArg (World.drewN _) (Nat.add_assoc _ _ _))⟩)) | (go_at_call 48; (with_reducible refine (inst_fits.calls a0_3 t170 t176 _ A21.out).mono ?_); rintro e w' ⟨rfl, ⟨nd, rfl⟩⟩; (try first | exact ⟨rfl, _, World.drewN_drewN _ _ _⟩ | exact ⟨rfl, _, Eq.trans (World.drewN_drewN _ _ _) (congrArg (World.drewN _) (Nat.add_assoc _ _ _))⟩))))
            go_meet
            case rel => exact ⟨_, (!t176), (m_5), H', ⟨m_45⟩, ⟨m_11⟩, ⟨m_4⟩, ⟨m_24⟩⟩
          · replace c20 := Bool.eq_false_iff.mpr c20
            subst c20
            have H1 : (iwd.j0 k true a0_0 a0_1 a0_2 a0_3 a0_4 t164 t165 t166 t167 t168 t169 t170 t171) = some (r1, r2) := by rw [if_neg (show ¬ (false = true) by decide)] at H; exact H
            clear H
            have H := H1
            clear H1
            have H' := Aside0.mk H
            clear H
            have hnb25 := NB163_173.out
            have hnc25 := NB173_163.out
            obtain ⟨hcz26_0, hcz26_1, hcz26_2, hcz26_3, hcz26_4, hfz26_0, hfz26_1, hfz26_2, hfz26_3, hfz26_4⟩ := cz5 (w := w13) BK163.out
            obtain ⟨hcz27_0, hcz27_1, hcz27_2, hcz27_3, hcz27_4, hcz27_5, hcz27_6, hcz27_7, hfz27_0, hfz27_1, hfz27_2, hfz27_3, hfz27_4, hfz27_5, hfz27_6, hfz27_7⟩ := cz8 (w := w13) BK173.out
            go_wp2_with (first | (go_at_call 48; (with_reducible refine (inst_fits.calls a0_1 t168 true _ A17.out).mono ?_); rintro e w' ⟨rfl, ⟨nd, rfl⟩⟩; (try first | exact ⟨rfl, _, World.drewN_drewN _ _ _⟩ | exact ⟨rfl, _, Eq.trans (World.drewN_drewN _ _ _) (congrArg (World.drewN _) (Nat.add_assoc _ _ _))⟩)) | (go_at_call 48; (with_reducible refine (inst_fits.calls a0_2 t169 false _ A19.out).mono ?_); rintro e w' ⟨rfl, ⟨nd, rfl⟩⟩; (try first | exact ⟨rfl, _, World.drewN_drewN _ _ _⟩ | exact ⟨rfl, _, Eq.trans (World.drewN_drewN _ _ _) (congrArg (World.drewN _) (Nat.add_assoc _ _ _))⟩)))
            repeat (go_quiet (first | (go_at_call 48; (with_reducible refine (inst_fits.calls a0_1 t168 true _ A17.out).mono ?_); rintro e w' ⟨rfl, ⟨nd, rfl⟩⟩; (try first | exact ⟨rfl, _, World.drewN_drewN _ _ _⟩ | exact ⟨rfl, _, Eq.trans (World.drewN_drewN _ _ _) (congrArg (World.drewN _) (Nat.add_assoc _ _ _))⟩)) | (go_at_call 48; (with_reducible refine (inst_fits.calls a0_2 t169 false _ A19.out).mono ?_); rintro e w' ⟨rfl, ⟨nd, rfl⟩⟩; (try first | exact ⟨rfl, _, World.drewN_drewN _ _ _⟩ | exact ⟨rfl, _, Eq.trans (World.drewN_drewN _ _ _) (congrArg (World.drewN _) (Nat.add_assoc _ _ _))⟩))); try go_wp2_with (first | (go_at_call 48; (with_reducible refine (inst_fits.calls a0_1 t168 true _ A17.out).mono ?_); rintro e w' ⟨rfl, ⟨nd, rfl⟩⟩; (try first | exact ⟨rfl, _, World.drewN_drewN _ _ _⟩ | exact ⟨rfl, _, Eq.trans (World.drewN_drewN _ _ _) (congrArg (World.drewN _) (Nat.add_assoc _ _ _))⟩)) | (go_at_call 48; (with_reducible refine (inst_fits.calls a0_2 t169 false _ A19.out).mono ?_); rintro e w' ⟨rfl, ⟨nd, rfl⟩⟩; (try first | exact ⟨rfl, _, World.drewN_drewN _ _ _⟩ | exact ⟨rfl, _, Eq.trans (World.drewN_drewN _ _ _) (congrArg (World.drewN _) (Nat.add_assoc _ _ _))⟩))))
            go_meet
            case rel => exact ⟨_, (true), (m_5), H', ⟨m_45⟩, ⟨m_11⟩, ⟨m_4⟩, ⟨m_24⟩⟩
        · replace c18 := Bool.eq_false_iff.mpr c18
          subst c18
          have H1 : (iwd.j0 k true a0_0 a0_1 a0_2 a0_3 a0_4 t164 t165 t166 t167 t168 t169 t170 t171) = some (r1, r2) := by rw [if_neg (show ¬ (false = true) by decide)] at H; exact H
          clear H
          have H := H1
          clear H1
          have H' := Aside0.mk H
          clear H
          have hnb28 := NB163_173.out
          have hnc28 := NB173_163.out
          obtain ⟨hcz29_0, hcz29_1, hcz29_2, hcz29_3, hcz29_4, hfz29_0, hfz29_1, hfz29_2, hfz29_3, hfz29_4⟩ := cz5 (w := w13) BK163.out
          obtain ⟨hcz30_0, hcz30_1, hcz30_2, hcz30_3, hcz30_4, hcz30_5, hcz30_6, hcz30_7, hfz30_0, hfz30_1, hfz30_2, hfz30_3, hfz30_4, hfz30_5, hfz30_6, hfz30_7⟩ := cz8 (w := w13) BK173.out
          go_wp2_with (first | (go_at_call 48; (with_reducible refine (inst_fits.calls a0_1 t168 false _ A17.out).mono ?_); rintro e w' ⟨rfl, ⟨nd, rfl⟩⟩; (try first | exact ⟨rfl, _, World.drewN_drewN _ _ _⟩ | exact ⟨rfl, _, Eq.trans (World.drewN_drewN _ _ _) (congrArg (World.drewN _) (Nat.add_assoc _ _ _))⟩)))
          repeat (go_quiet (first | (go_at_call 48; (with_reducible refine (inst_fits.calls a0_1 t168 false _ A17.out).mono ?_); rintro e w' ⟨rfl, ⟨nd, rfl⟩⟩; (try first | exact ⟨rfl, _, World.drewN_drewN _ _ _⟩ | exact ⟨rfl, _, Eq.trans (World.drewN_drewN _ _ _) (congrArg (World.drewN _) (Nat.add_assoc _ _ _))⟩))); try go_wp2_with (first | (go_at_call 48; (with_reducible refine (inst_fits.calls a0_1 t168 false _ A17.out).mono ?_); rintro e w' ⟨rfl, ⟨nd, rfl⟩⟩; (try first | exact ⟨rfl, _, World.drewN_drewN _ _ _⟩ | exact ⟨rfl, _, Eq.trans (World.drewN_drewN _ _ _) (congrArg (World.drewN _) (Nat.add_assoc _ _ _))⟩))))
          go_meet
          case rel => exact ⟨_, (true), (m_5), H', ⟨m_45⟩, ⟨m_11⟩, ⟨m_4⟩, ⟨m_24⟩⟩
      · replace c16 := Bool.eq_false_iff.mpr c16
        subst c16
        have H1 : (iwd.j0 k true a0_0 a0_1 a0_2 a0_3 a0_4 t164 t165 t166 t167 t168 t169 t170 t171) = some (r1, r2) := by rw [if_neg (show ¬ (false = true) by decide)] at H; exact H
        clear H
        have H := H1
        clear H1
        have H' := Aside0.mk H
        clear H
        go_wp2
        repeat (go_quiet (fail); try go_wp2)
        go_meet
        case rel => exact ⟨_, (true), (m_5), H', ⟨m_45⟩, ⟨m_11⟩, ⟨m_4⟩, ⟨m_24⟩⟩
     case rest =>
      clear HC9
      obtain ⟨kq, x46_8, rfl, HA, HJ8, BK163, BK173, HB⟩ := hcut
      cases kq with
      | zero => exact absurd HA.out (by simp [iwd.j0])
      | succ kj8 =>
       have H := HA.out
       clear HA
       simp only [iwd.j0] at H
       by_cases c31 : x46_8 = true
       · subst c31
         have H1 : (some (0, false)) = some (r1, r2) := by rw [if_pos rfl] at H; exact H
         clear H
         have H := H1
         clear H1
         simp only [Option.some.injEq, Prod.mk.injEq] at H
         obtain ⟨rfl, rfl⟩ := H
         go_wp2
         repeat (go_quiet (fail); try go_wp2)
         go_ret2
         exact ⟨m_3, m_24⟩
       · replace c31 := Bool.eq_false_iff.mpr c31
         subst c31
         have H1 : (if t171 = true then (if a0_4 ≥ 0 then (some (Go.bits .or .u32 (Go.bits .or .u32 (Go.bits .or .u32 (Go.bits .or .u32 (Go.bits .or .u32 (Go.bits .or .u32 t164 ((t165 * 4096) % 4294967296)) ((t166 * 33554432) % 4294967296)) ((((a0_1) % 4294967296) * 128) % 4294967296)) ((((a0_2) % 4294967296) * 32768) % 4294967296)) ((((a0_3) % 4294967296) * 1048576) % 4294967296)) ((((a0_4) % 4294967296) * 1048576) % 4294967296), decide (a0_4 < 32))) else (some (Go.bits .or .u32 (Go.bits .or .u32 (Go.bits .or .u32 (Go.bits .or .u32 (Go.bits .or .u32 (Go.bits .or .u32 t164 ((t165 * 4096) % 4294967296)) ((t166 * 33554432) % 4294967296)) ((((a0_1) % 4294967296) * 128) % 4294967296)) ((((a0_2) % 4294967296) * 32768) % 4294967296)) ((((a0_3) % 4294967296) * 1048576) % 4294967296)) ((((a0_4) % 4294967296) * 1048576) % 4294967296), false))) else (if t167 = 0 then (some (Go.bits .or .u32 (Go.bits .or .u32 (Go.bits .or .u32 (Go.bits .or .u32 (Go.bits .or .u32 t164 ((t165 * 4096) % 4294967296)) ((t166 * 33554432) % 4294967296)) ((((a0_1) % 4294967296) * 128) % 4294967296)) ((((a0_2) % 4294967296) * 32768) % 4294967296)) ((((a0_3) % 4294967296) * 1048576) % 4294967296), (a0_4 == 0))) else ((imm_Put.f kj8 t167 a0_4).bind fun bt177 => (some (Go.bits .or .u32 (Go.bits .or .u32 (Go.bits .or .u32 (Go.bits .or .u32 (Go.bits .or .u32 (Go.bits .or .u32 t164 ((t165 * 4096) % 4294967296)) ((t166 * 33554432) % 4294967296)) ((((a0_1) % 4294967296) * 128) % 4294967296)) ((((a0_2) % 4294967296) * 32768) % 4294967296)) ((((a0_3) % 4294967296) * 1048576) % 4294967296)) bt177.1, bt177.2))))) = some (r1, r2) := by rw [if_neg (show ¬ (false = true) by decide)] at H; exact H
         clear H
         have H := H1
         clear H1
         by_cases c32 : t171 = true
         · subst c32
           have H1 : (if a0_4 ≥ 0 then (some (Go.bits .or .u32 (Go.bits .or .u32 (Go.bits .or .u32 (Go.bits .or .u32 (Go.bits .or .u32 (Go.bits .or .u32 t164 ((t165 * 4096) % 4294967296)) ((t166 * 33554432) % 4294967296)) ((((a0_1) % 4294967296) * 128) % 4294967296)) ((((a0_2) % 4294967296) * 32768) % 4294967296)) ((((a0_3) % 4294967296) * 1048576) % 4294967296)) ((((a0_4) % 4294967296) * 1048576) % 4294967296), decide (a0_4 < 32))) else (some (Go.bits .or .u32 (Go.bits .or .u32 (Go.bits .or .u32 (Go.bits .or .u32 (Go.bits .or .u32 (Go.bits .or .u32 t164 ((t165 * 4096) % 4294967296)) ((t166 * 33554432) % 4294967296)) ((((a0_1) % 4294967296) * 128) % 4294967296)) ((((a0_2) % 4294967296) * 32768) % 4294967296)) ((((a0_3) % 4294967296) * 1048576) % 4294967296)) ((((a0_4) % 4294967296) * 1048576) % 4294967296), false))) = some (r1, r2) := by rw [if_pos rfl] at H; exact H
           clear H
           have H := H1
           clear H1
           by_cases c33 : a0_4 ≥ 0
           · rw [if_pos c33] at H
             have c33b0 : decide (0 ≤ a0_4) = true := decide_eq_true c33
             clear c33
             exact lfxRsInstWord1
           · rw [if_neg c33] at H
             have c33b0 : decide (0 ≤ a0_4) = false := decide_eq_false c33
             clear c33
             exact lfxRsInstWord1
         · replace c32 := Bool.eq_false_iff.mpr c32
           subst c32
           have H1 : (if t167 = 0 then (some (Go.bits .or .u32 (Go.bits .or .u32 (Go.bits .or .u32 (Go.bits .or .u32 (Go.bits .or .u32 t164 ((t165 * 4096) % 4294967296)) ((t166 * 33554432) % 4294967296)) ((((a0_1) % 4294967296) * 128) % 4294967296)) ((((a0_2) % 4294967296) * 32768) % 4294967296)) ((((a0_3) % 4294967296) * 1048576) % 4294967296), (a0_4 == 0))) else ((imm_Put.f kj8 t167 a0_4).bind fun bt177 => (some (Go.bits .or .u32 (Go.bits .or .u32 (Go.bits .or .u32 (Go.bits .or .u32 (Go.bits .or .u32 (Go.bits .or .u32 t164 ((t165 * 4096) % 4294967296)) ((t166 * 33554432) % 4294967296)) ((((a0_1) % 4294967296) * 128) % 4294967296)) ((((a0_2) % 4294967296) * 32768) % 4294967296)) ((((a0_3) % 4294967296) * 1048576) % 4294967296)) bt177.1, bt177.2)))) = some (r1, r2) := by rw [if_neg (show ¬ (false = true) by decide)] at H; exact H
           clear H
           have H := H1
           clear H1
           by_cases c40 : t167 = 0
           · rw [if_pos c40] at H
             have c40b0 : (t167 == 0) = true := beq_iff_eq.mpr c40
             have c40b1 : (t167 != 0) = false := bne_eq_false_iff_eq.mpr c40
             clear c40
             exact lfxRsInstWord1
           · rw [if_neg c40] at H
             have c40b0 : (t167 == 0) = false := beq_eq_false_iff_ne.mpr c40
             have c40b1 : (t167 != 0) = true := bne_iff_ne.mpr c40
             replace H := Option.bind_eq_some_iff.mp H
             obtain ⟨⟨t177, t178⟩, A440, H⟩ := H
             replace H : (some (Go.bits .or .u32 (Go.bits .or .u32 (Go.bits .or .u32 (Go.bits .or .u32 (Go.bits .or .u32 (Go.bits .or .u32 t164 ((t165 * 4096) % 4294967296)) ((t166 * 33554432) % 4294967296)) ((((a0_1) % 4294967296) * 128) % 4294967296)) ((((a0_2) % 4294967296) * 32768) % 4294967296)) ((((a0_3) % 4294967296) * 1048576) % 4294967296)) t177, t178)) = some (r1, r2) := H
             have A44 := Aside0.mk A440
             clear A440
             simp only [Option.some.injEq, Prod.mk.injEq] at H
             obtain ⟨rfl, rfl⟩ := H
             have hnb45 := NB173_163.out
             have hnc45 := NB163_173.out
             obtain ⟨hcz46_0, hcz46_1, hcz46_2, hcz46_3, hcz46_4, hcz46_5, hcz46_6, hcz46_7, hfz46_0, hfz46_1, hfz46_2, hfz46_3, hfz46_4, hfz46_5, hfz46_6, hfz46_7⟩ := cz8 (w := wc) BK173.out
             obtain ⟨hcz47_0, hcz47_1, hcz47_2, hcz47_3, hcz47_4, hfz47_0, hfz47_1, hfz47_2, hfz47_3, hfz47_4⟩ := cz5 (w := wc) BK163.out
             go_wp2_with (first | (go_at_call 49; (with_reducible refine (imm_Put.calls kj8 t167 a0_4 t177 t178 _ A44.out).mono ?_); rintro e w48 ⟨rfl, hb⟩; have n0_ := Aside0.mk (blk_below (g := gb163) (o := .cells #[.int .i64 a0_0, .int .i64 a0_1, .int .i64 a0_2, .int .i64 a0_3, .int .i32 a0_4] 32 (0, 0)) (m_28) hb); have n1_ := Aside0.mk (blk_below (g := gb173) (o := .cells #[.int .u32 t164, .int .u32 t165, .int .u32 t166, .int .i64 t167, .bool t168, .bool t169, .bool t170, .bool false] 88 (0, 0)) (by (with_reducible repeat (first | refine blk_drewN ?_ _ | refine blk_drew ?_ | refine blk_alloc ?_ _)); exact BK173.out) hb); have n2_ := Aside0.mk (below_step (m_24) hb); clear BK163; clear BK173; clear HB; have BK163 := n0_; have BK173 := n1_; have HB := n2_; clear n0_ n1_ n2_; (try clear hb); (try clear hb2); (try clear hk); (try clear hi)))
             repeat (go_quiet (first | (go_at_call 49; (with_reducible refine (imm_Put.calls kj8 t167 a0_4 t177 t178 _ A44.out).mono ?_); rintro e w48 ⟨rfl, hb⟩; have n0_ := Aside0.mk (blk_below (g := gb163) (o := .cells #[.int .i64 a0_0, .int .i64 a0_1, .int .i64 a0_2, .int .i64 a0_3, .int .i32 a0_4] 32 (0, 0)) (m_28) hb); have n1_ := Aside0.mk (blk_below (g := gb173) (o := .cells #[.int .u32 t164, .int .u32 t165, .int .u32 t166, .int .i64 t167, .bool t168, .bool t169, .bool t170, .bool false] 88 (0, 0)) (by (with_reducible repeat (first | refine blk_drewN ?_ _ | refine blk_drew ?_ | refine blk_alloc ?_ _)); exact BK173.out) hb); have n2_ := Aside0.mk (below_step (m_24) hb); clear BK163; clear BK173; clear HB; have BK163 := n0_; have BK173 := n1_; have HB := n2_; clear n0_ n1_ n2_; (try clear hb); (try clear hb2); (try clear hk); (try clear hi))); try go_wp2_with (first | (go_at_call 49; (with_reducible refine (imm_Put.calls kj8 t167 a0_4 t177 t178 _ A44.out).mono ?_); rintro e w48 ⟨rfl, hb⟩; have n0_ := Aside0.mk (blk_below (g := gb163) (o := .cells #[.int .i64 a0_0, .int .i64 a0_1, .int .i64 a0_2, .int .i64 a0_3, .int .i32 a0_4] 32 (0, 0)) (m_28) hb); have n1_ := Aside0.mk (blk_below (g := gb173) (o := .cells #[.int .u32 t164, .int .u32 t165, .int .u32 t166, .int .i64 t167, .bool t168, .bool t169, .bool t170, .bool false] 88 (0, 0)) (by (with_reducible repeat (first | refine blk_drewN ?_ _ | refine blk_drew ?_ | refine blk_alloc ?_ _)); exact BK173.out) hb); have n2_ := Aside0.mk (below_step (m_24) hb); clear BK163; clear BK173; clear HB; have BK163 := n0_; have BK173 := n1_; have HB := n2_; clear n0_ n1_ n2_; (try clear hb); (try clear hb2); (try clear hk); (try clear hi))))
             go_ret2
             exact ⟨m_3, m_24⟩
end Go.Proofs.Ytihecimbhhlhaaa.PRs
