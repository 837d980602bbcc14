/- pintleref03_Encode: a plain function with the same answers as the program's, and the proof of it, as a program has written them. -/
import Derived.Test.YtmjiimajbaeicaaInBase
import Derived.Test.YtmjiimajbaeicaaInPintleref03Of
import Derived.Test.YtmjiimajbaeicaaInPintleref02Bits
namespace Go.Proofs.Ytmjiimajbaeicaa.PInst
open Go.RowKit Go.Proofs.YtmjiimajbaeicaaW.PrintWords Go.Proofs.YtmjiimajbaeicaaW.PrintLast Go.Proofs.YtmjiimajbaeicaaW.PrintMore
attribute [local go_sem] max2_int min2_int max_two min_two max_three min_three max_four min_four   -- for this text's walks alone
set_option linter.unusedVariables false
set_option linter.unusedSimpArgs false


/-! ### pintleref03_Encode: function 13 -/
mutual
def pintleref03_Encode.j0 : Nat → Bool → Int → Int → Int → Int → Int → Option (Int × Bool)
  | 0, _, _, _, _, _, _ => none
  | k + 1, x16, x269000, x269001, x269002, x269003, x269004 => if x16 = true then (if x269001 = 0 then (if x269002 = 0 then (if x269003 = 0 then (if x269004 = 0 then (some (115 + wrap64 (x269000 - 47) % 4294967296 * 1048576 % 4294967296, true)) else (some (0, false))) else (some (0, false))) else (some (0, false))) else (some (0, false))) else ((pintleref03_Of.f k x269000).bind fun bt269 => (if bt269.2.2.2.2.2.2.2 = true then ((pintleref03_reg.f x269001 bt269.2.2.2.2.1).bind fun t278 => (if t278 = true then ((pintleref03_reg.f x269002 bt269.2.2.2.2.2.1).bind fun t279 => (if t279 = true then ((pintleref03_reg.f x269003 bt269.2.2.2.2.2.2.1).bind fun t280 => (pintleref03_Encode.j1 k (!t280) x269000 x269001 x269002 x269003 x269004 bt269.1 bt269.2.1 bt269.2.2.1 bt269.2.2.2.1 bt269.2.2.2.2.1 bt269.2.2.2.2.2.1 bt269.2.2.2.2.2.2.1)) else (pintleref03_Encode.j1 k true x269000 x269001 x269002 x269003 x269004 bt269.1 bt269.2.1 bt269.2.2.1 bt269.2.2.2.1 bt269.2.2.2.2.1 bt269.2.2.2.2.2.1 bt269.2.2.2.2.2.2.1))) else (pintleref03_Encode.j1 k true x269000 x269001 x269002 x269003 x269004 bt269.1 bt269.2.1 bt269.2.2.1 bt269.2.2.2.1 bt269.2.2.2.2.1 bt269.2.2.2.2.2.1 bt269.2.2.2.2.2.2.1))) else (pintleref03_Encode.j1 k true x269000 x269001 x269002 x269003 x269004 bt269.1 bt269.2.1 bt269.2.2.1 bt269.2.2.2.1 bt269.2.2.2.2.1 bt269.2.2.2.2.2.1 bt269.2.2.2.2.2.2.1)))
def pintleref03_Encode.j1 : Nat → Bool → Int → Int → Int → Int → Int → Int → Int → Int → Int → Bool → Bool → Bool → Option (Int × Bool)
  | 0, _, _, _, _, _, _, _, _, _, _, _, _, _ => none
  | k + 1, x72, x269000, x269001, x269002, x269003, x269004, x278000, x278001, x278002, x278003, x278004, x278005, x278006 => if x72 = true then (some (0, false)) else ((pintleref02_Put.f k x278003 x269004).bind fun bt281 => (if x278003 = 0 then (pintleref03_Encode.j2 k ((((((((((x278000 + ((x278001 * 4096) % 4294967296)) % 4294967296) + ((x278002 * 33554432) % 4294967296)) % 4294967296) + ((((x269001) % 4294967296) * 128) % 4294967296)) % 4294967296) + ((((x269002) % 4294967296) * 32768) % 4294967296)) % 4294967296) + ((((x269003) % 4294967296) * 1048576) % 4294967296)) % 4294967296) 0 (x269004 == 0) x269000 x269001 x269002 x269003 x269004 x278000 x278001 x278002 x278003 x278004 x278005 x278006) else (pintleref03_Encode.j2 k ((((((((((x278000 + ((x278001 * 4096) % 4294967296)) % 4294967296) + ((x278002 * 33554432) % 4294967296)) % 4294967296) + ((((x269001) % 4294967296) * 128) % 4294967296)) % 4294967296) + ((((x269002) % 4294967296) * 32768) % 4294967296)) % 4294967296) + ((((x269003) % 4294967296) * 1048576) % 4294967296)) % 4294967296) bt281.1 bt281.2 x269000 x269001 x269002 x269003 x269004 x278000 x278001 x278002 x278003 x278004 x278005 x278006)))
def pintleref03_Encode.j2 : Nat → Int → Int → Bool → Int → Int → Int → Int → Int → Int → Int → Int → Int → Bool → Bool → Bool → Option (Int × Bool)
  | 0, _, _, _, _, _, _, _, _, _, _, _, _, _, _, _ => none
  | k + 1, x6, x7, x8, x269000, x269001, x269002, x269003, x269004, x278000, x278001, x278002, x278003, x278004, x278005, x278006 => if x278003 = 6 then (if x269004 ≥ 0 then (if x269004 < 32 then (some ((x6 + ((((x269004) % 4294967296) * 1048576) % 4294967296)) % 4294967296, true)) else (some (0, false))) else (some (0, false))) else (if x8 = true then (some ((x6 + x7) % 4294967296, true)) else (some (0, false)))
end
def pintleref03_Encode.f (k : Nat) (a0_0 : Int) (a0_1 : Int) (a0_2 : Int) (a0_3 : Int) (a0_4 : Int) : Option (Int × Bool) := if a0_0 = 47 then (pintleref03_Encode.j0 k true a0_0 a0_1 a0_2 a0_3 a0_4) else (pintleref03_Encode.j0 k (a0_0 == 48) a0_0 a0_1 a0_2 a0_3 a0_4)
theorem pintleref03_Encode.mono_l : ∀ k, (∀ y0 y1 y2 y3 y4 y5, LeO (pintleref03_Encode.j0 k y0 y1 y2 y3 y4 y5) (pintleref03_Encode.j0 (k + 1) y0 y1 y2 y3 y4 y5)) ∧ (∀ y0 y1 y2 y3 y4 y5 y6 y7 y8 y9 y10 y11 y12, LeO (pintleref03_Encode.j1 k y0 y1 y2 y3 y4 y5 y6 y7 y8 y9 y10 y11 y12) (pintleref03_Encode.j1 (k + 1) y0 y1 y2 y3 y4 y5 y6 y7 y8 y9 y10 y11 y12)) ∧ (∀ y0 y1 y2 y3 y4 y5 y6 y7 y8 y9 y10 y11 y12 y13 y14, LeO (pintleref03_Encode.j2 k y0 y1 y2 y3 y4 y5 y6 y7 y8 y9 y10 y11 y12 y13 y14) (pintleref03_Encode.j2 (k + 1) y0 y1 y2 y3 y4 y5 y6 y7 y8 y9 y10 y11 y12 y13 y14))
  | 0 => ⟨fun _ _ _ _ _ _ r h => by simp [pintleref03_Encode.j0] at h, fun _ _ _ _ _ _ _ _ _ _ _ _ _ r h => by simp [pintleref03_Encode.j1] at h, fun _ _ _ _ _ _ _ _ _ _ _ _ _ _ _ r h => by simp [pintleref03_Encode.j2] at h⟩
  | k + 1 => by
    obtain ⟨ih0, ih1, ih2⟩ := pintleref03_Encode.mono_l k
    refine ⟨?_, ?_, ?_⟩
    · intro y0 y1 y2 y3 y4 y5
      unfold pintleref03_Encode.j0
      repeat' first
      | (with_reducible exact ih0 _ _ _ _ _ _)
      | (with_reducible exact ih1 _ _ _ _ _ _ _ _ _ _ _ _ _)
      | (with_reducible exact ih2 _ _ _ _ _ _ _ _ _ _ _ _ _ _ _)
      | (with_reducible exact pintleref02_Put.mono _ _ _)
      | (with_reducible exact pintleref03_Of.mono _ _)
      | (with_reducible exact LeO.refl _)
      | (with_reducible exact LeO.none _)
      | (with_reducible refine LeO.ite ?_ ?_)
      | (with_reducible refine LeO.bind ?_ (fun _ => ?_))
      | exact ih0 _ _ _ _ _ _
      | exact ih1 _ _ _ _ _ _ _ _ _ _ _ _ _
      | exact ih2 _ _ _ _ _ _ _ _ _ _ _ _ _ _ _
      | exact pintleref02_Put.mono _ _ _
      | exact pintleref03_Of.mono _ _
      | exact LeO.none _
      | refine LeO.ite ?_ ?_
      | refine LeO.bind ?_ (fun _ => ?_)
    · intro y0 y1 y2 y3 y4 y5 y6 y7 y8 y9 y10 y11 y12
      unfold pintleref03_Encode.j1
      repeat' first
      | (with_reducible exact ih0 _ _ _ _ _ _)
      | (with_reducible exact ih1 _ _ _ _ _ _ _ _ _ _ _ _ _)
      | (with_reducible exact ih2 _ _ _ _ _ _ _ _ _ _ _ _ _ _ _)
      | (with_reducible exact pintleref02_Put.mono _ _ _)
      | (with_reducible exact pintleref03_Of.mono _ _)
      | (with_reducible exact LeO.refl _)
      | (with_reducible exact LeO.none _)
      | (with_reducible refine LeO.ite ?_ ?_)
      | (with_reducible refine LeO.bind ?_ (fun _ => ?_))
      | exact ih0 _ _ _ _ _ _
      | exact ih1 _ _ _ _ _ _ _ _ _ _ _ _ _
      | exact ih2 _ _ _ _ _ _ _ _ _ _ _ _ _ _ _
      | exact pintleref02_Put.mono _ _ _
      | exact pintleref03_Of.mono _ _
      | exact LeO.none _
      | refine LeO.ite ?_ ?_
      | refine LeO.bind ?_ (fun _ => ?_)
    · intro y0 y1 y2 y3 y4 y5 y6 y7 y8 y9 y10 y11 y12 y13 y14
      unfold pintleref03_Encode.j2
      repeat' first
      | (with_reducible exact ih0 _ _ _ _ _ _)
      | (with_reducible exact ih1 _ _ _ _ _ _ _ _ _ _ _ _ _)
      | (with_reducible exact ih2 _ _ _ _ _ _ _ _ _ _ _ _ _ _ _)
      | (with_reducible exact pintleref02_Put.mono _ _ _)
      | (with_reducible exact pintleref03_Of.mono _ _)
      | (with_reducible exact LeO.refl _)
      | (with_reducible exact LeO.none _)
      | (with_reducible refine LeO.ite ?_ ?_)
      | (with_reducible refine LeO.bind ?_ (fun _ => ?_))
      | exact ih0 _ _ _ _ _ _
      | exact ih1 _ _ _ _ _ _ _ _ _ _ _ _ _
      | exact ih2 _ _ _ _ _ _ _ _ _ _ _ _ _ _ _
      | exact pintleref02_Put.mono _ _ _
      | exact pintleref03_Of.mono _ _
      | exact LeO.none _
      | refine LeO.ite ?_ ?_
      | refine LeO.bind ?_ (fun _ => ?_)
theorem pintleref03_Encode.mono : ∀ a0 a1 a2 a3 a4 k, LeO (pintleref03_Encode.f k a0 a1 a2 a3 a4) (pintleref03_Encode.f (k + 1) a0 a1 a2 a3 a4) := by
  intro a0 a1 a2 a3 a4 k
  obtain ⟨ih0, ih1, ih2⟩ := pintleref03_Encode.mono_l k
  unfold pintleref03_Encode.f
  repeat' first
      | (with_reducible exact ih0 _ _ _ _ _ _)
      | (with_reducible exact ih1 _ _ _ _ _ _ _ _ _ _ _ _ _)
      | (with_reducible exact ih2 _ _ _ _ _ _ _ _ _ _ _ _ _ _ _)
      | (with_reducible exact pintleref02_Put.mono _ _ _)
      | (with_reducible exact pintleref03_Of.mono _ _)
      | (with_reducible exact LeO.refl _)
      | (with_reducible exact LeO.none _)
      | (with_reducible refine LeO.ite ?_ ?_)
      | (with_reducible refine LeO.bind ?_ (fun _ => ?_))
      | exact ih0 _ _ _ _ _ _
      | exact ih1 _ _ _ _ _ _ _ _ _ _ _ _ _
      | exact ih2 _ _ _ _ _ _ _ _ _ _ _ _ _ _ _
      | exact pintleref02_Put.mono _ _ _
      | exact pintleref03_Of.mono _ _
      | exact LeO.none _
      | refine LeO.ite ?_ ?_
      | refine LeO.bind ?_ (fun _ => ?_)
set_option maxHeartbeats 8000000 in
set_option maxRecDepth 100000 in
theorem pintleref03_Encode.calls (k : Nat) (a0_0 : Int) (a0_1 : Int) (a0_2 : Int) (a0_3 : Int) (a0_4 : Int) (r1 : Int) (r2 : Bool) (w : World) (h : pintleref03_Encode.f k a0_0 a0_1 a0_2 a0_3 a0_4 = some (r1, r2)) :
    Calls Try.prog 13 #[.agg #[.int .i64 a0_0, .int .i64 a0_1, .int .i64 a0_2, .int .i64 a0_3, .int .i32 a0_4]] w fun e w' => e = .returned (.tuple #[.int .u32 r1, .bool r2]) ∧ Below w.heap.size w w' := by
  have hu24 := Try.underlying24
  have hu34 := Try.underlying34
  have HB := Aside0.mk (Below.refl w.heap.size w)
  have H : (if a0_0 = 47 then (pintleref03_Encode.j0 k true a0_0 a0_1 a0_2 a0_3 a0_4) else (pintleref03_Encode.j0 k (a0_0 == 48) a0_0 a0_1 a0_2 a0_3 a0_4)) = some (r1, r2) := h
  clear h
  have HC2 := Aside0.mk H
  clear H
  go_enter Try.func13, Try.ntmps13
  go_upto_region 1 with (first | ((with_reducible refine gate_dst (N := 1) rfl ?_); refine box_event ?hg (N := 1) ?hd (cs := #[.int .i64 a0_0, .int .i64 a0_1, .int .i64 a0_2, .int .i64 a0_3, .int .i32 a0_4]) (t := 24) ?hr ?_; (case hd => rfl); (case hg => rfl); (case hr => first | (go_simp; done) | (go_simp; rfl)); intro gb268 hg w3 hbox hb; have n0_ := Aside0.mk (below_step (by repeat (first | (with_reducible first | exact HB.out | apply below_alloc | apply pw_below_drewN | apply below_drew1) | exact HB.out)) hb); have n1_ := Aside0.mk (hbox); have n2_ := Aside0.mk ((by rw [hg]; exact (below_size (by repeat (first | (with_reducible first | exact HB.out | apply below_alloc | apply pw_below_drewN | apply below_drew1) | exact HB.out))) : w.heap.size ≤ gb268)); have n3_ := Aside0.mk ((by rw [hg]; exact (below_size (by repeat (first | (with_reducible first | exact HB.out | apply below_alloc | apply pw_below_drewN | apply below_drew1) | exact HB.out))) : w.heap.size ≤ gb268)); clear HB; have HB := n0_; have BK268 := n1_; have GW268 := n2_; have GE268 := n3_; clear n0_ n1_ n2_ n3_; clear hb hbox hg))
  repeat (go_quiet (first | ((with_reducible refine gate_dst (N := 1) rfl ?_); refine box_event ?hg (N := 1) ?hd (cs := #[.int .i64 a0_0, .int .i64 a0_1, .int .i64 a0_2, .int .i64 a0_3, .int .i32 a0_4]) (t := 24) ?hr ?_; (case hd => rfl); (case hg => rfl); (case hr => first | (go_simp; done) | (go_simp; rfl)); intro gb268 hg w3 hbox hb; have n0_ := Aside0.mk (below_step (by repeat (first | (with_reducible first | exact HB.out | apply below_alloc | apply pw_below_drewN | apply below_drew1) | exact HB.out)) hb); have n1_ := Aside0.mk (hbox); have n2_ := Aside0.mk ((by rw [hg]; exact (below_size (by repeat (first | (with_reducible first | exact HB.out | apply below_alloc | apply pw_below_drewN | apply below_drew1) | exact HB.out))) : w.heap.size ≤ gb268)); have n3_ := Aside0.mk ((by rw [hg]; exact (below_size (by repeat (first | (with_reducible first | exact HB.out | apply below_alloc | apply pw_below_drewN | apply below_drew1) | exact HB.out))) : w.heap.size ≤ gb268)); clear HB; have HB := n0_; have BK268 := n1_; have GW268 := n2_; have GE268 := n3_; clear n0_ n1_ n2_ n3_; clear hb hbox hg)); go_upto_region 1 with (first | ((with_reducible refine gate_dst (N := 1) rfl ?_); refine box_event ?hg (N := 1) ?hd (cs := #[.int .i64 a0_0, .int .i64 a0_1, .int .i64 a0_2, .int .i64 a0_3, .int .i32 a0_4]) (t := 24) ?hr ?_; (case hd => rfl); (case hg => rfl); (case hr => first | (go_simp; done) | (go_simp; rfl)); intro gb268 hg w3 hbox hb; have n0_ := Aside0.mk (below_step (by repeat (first | (with_reducible first | exact HB.out | apply below_alloc | apply pw_below_drewN | apply below_drew1) | exact HB.out)) hb); have n1_ := Aside0.mk (hbox); have n2_ := Aside0.mk ((by rw [hg]; exact (below_size (by repeat (first | (with_reducible first | exact HB.out | apply below_alloc | apply pw_below_drewN | apply below_drew1) | exact HB.out))) : w.heap.size ≤ gb268)); have n3_ := Aside0.mk ((by rw [hg]; exact (below_size (by repeat (first | (with_reducible first | exact HB.out | apply below_alloc | apply pw_below_drewN | apply below_drew1) | exact HB.out))) : w.heap.size ≤ gb268)); clear HB; have HB := n0_; have BK268 := n1_; have GW268 := n2_; have GE268 := n3_; clear n0_ n1_ n2_ n3_; clear hb hbox hg)))
  (try simp only [Act.put, List.setIfInBounds_toArray, List.set_cons_zero, List.set_cons_succ])
  go_cut [16] (fun v16 wc => ∃ (kq : Nat) (x16_1 : Bool), v16 = .bool x16_1 ∧ Aside0 (pintleref03_Encode.j0 kq x16_1 a0_0 a0_1 a0_2 a0_3 a0_4 = some (r1, r2)) ∧ Aside0 (kq ≤ k) ∧ Aside0 (wc.heap[gb268]? = some (.cells #[.int .i64 a0_0, .int .i64 a0_1, .int .i64 a0_2, .int .i64 a0_3, .int .i32 a0_4] 24 (0, 0))) ∧ Aside0 (Below w.heap.size w wc))
  case first =>
    have H := HC2.out
    clear HC2
    by_cases c4 : a0_0 = 47
    · rw [if_pos c4] at H
      have c4b0 : (a0_0 == 47) = true := beq_iff_eq.mpr c4
      have c4b1 : (a0_0 != 47) = false := bne_eq_false_iff_eq.mpr c4
      clear c4
      (first | rw [c4b0] | (simp only [i64_w, i32_w]; rw [c4b0]) | skip)
      have H' := Aside0.mk H
      clear H
      have hcz5_0 : w3.cell? ⟨gb268, 0, none⟩ = some (.int .i64 a0_0) := (blk_cell BK268.out 0).trans rfl
      have hcz5_1 : w3.cell? ⟨gb268, 1, none⟩ = some (.int .i64 a0_1) := (blk_cell BK268.out 1).trans rfl
      have hcz5_2 : w3.cell? ⟨gb268, 2, none⟩ = some (.int .i64 a0_2) := (blk_cell BK268.out 2).trans rfl
      have hcz5_3 : w3.cell? ⟨gb268, 3, none⟩ = some (.int .i64 a0_3) := (blk_cell BK268.out 3).trans rfl
      have hcz5_4 : w3.cell? ⟨gb268, 4, none⟩ = some (.int .i32 a0_4) := (blk_cell BK268.out 4).trans rfl
      have hfz5_0 := blk_frozen BK268.out 0
      have hfz5_1 := blk_frozen BK268.out 1
      have hfz5_2 := blk_frozen BK268.out 2
      have hfz5_3 := blk_frozen BK268.out 3
      have hfz5_4 := blk_frozen BK268.out 4
      go_wp2
      repeat (go_quiet (fail); try go_wp2)
      go_meet
      case rel => exact ⟨_, (true), (by first | rfl | (simp; done) | (simp [*]; done)), H', ⟨by first | omega | exact Nat.le_refl _⟩, ⟨by (with_reducible repeat (first | refine blk_drewN ?_ _ | refine blk_drew ?_ | refine blk_alloc ?_ _)); exact BK268.out⟩, ⟨by repeat (first | (with_reducible first | exact HB.out | apply below_alloc | apply pw_below_drewN | apply below_drew1 | refine below_set ?_ GE268.out) | exact HB.out)⟩⟩
    · rw [if_neg c4] at H
      have c4b0 : (a0_0 == 47) = false := beq_eq_false_iff_ne.mpr c4
      have c4b1 : (a0_0 != 47) = true := bne_iff_ne.mpr c4
      (first | rw [c4b0] | (simp only [i64_w, i32_w]; rw [c4b0]) | skip)
      have H' := Aside0.mk H
      clear H
      have hcz6_0 : w3.cell? ⟨gb268, 0, none⟩ = some (.int .i64 a0_0) := (blk_cell BK268.out 0).trans rfl
      have hcz6_1 : w3.cell? ⟨gb268, 1, none⟩ = some (.int .i64 a0_1) := (blk_cell BK268.out 1).trans rfl
      have hcz6_2 : w3.cell? ⟨gb268, 2, none⟩ = some (.int .i64 a0_2) := (blk_cell BK268.out 2).trans rfl
      have hcz6_3 : w3.cell? ⟨gb268, 3, none⟩ = some (.int .i64 a0_3) := (blk_cell BK268.out 3).trans rfl
      have hcz6_4 : w3.cell? ⟨gb268, 4, none⟩ = some (.int .i32 a0_4) := (blk_cell BK268.out 4).trans rfl
      have hfz6_0 := blk_frozen BK268.out 0
      have hfz6_1 := blk_frozen BK268.out 1
      have hfz6_2 := blk_frozen BK268.out 2
      have hfz6_3 := blk_frozen BK268.out 3
      have hfz6_4 := blk_frozen BK268.out 4
      go_wp2
      repeat (go_quiet (fail); try go_wp2)
      go_meet
      case rel => exact ⟨_, ((a0_0 == 48)), (by first | rfl | (simp; done) | (simp [*]; done)), H', ⟨by first | omega | exact Nat.le_refl _⟩, ⟨by (with_reducible repeat (first | refine blk_drewN ?_ _ | refine blk_drew ?_ | refine blk_alloc ?_ _)); exact BK268.out⟩, ⟨by repeat (first | (with_reducible first | exact HB.out | apply below_alloc | apply pw_below_drewN | apply below_drew1 | refine below_set ?_ GE268.out) | exact HB.out)⟩⟩
  case rest =>
    clear HC2
    try clear c1
    try clear p2
    try clear c4
    try clear c4b0
    try clear c4b1
    try clear hcz5_0
    try clear hcz5_1
    try clear hcz5_2
    try clear hcz5_3
    try clear hcz5_4
    try clear hcz6_0
    try clear hcz6_1
    try clear hcz6_2
    try clear hcz6_3
    try clear hcz6_4
    try clear hfz5_0
    try clear hfz5_1
    try clear hfz5_2
    try clear hfz5_3
    try clear hfz5_4
    try clear hfz6_0
    try clear hfz6_1
    try clear hfz6_2
    try clear hfz6_3
    try clear hfz6_4
    obtain ⟨kq, x16_1, rfl, HA, HJ1, BK268, HB⟩ := hcut
    cases kq with
    | zero => exact absurd HA.out (by simp [pintleref03_Encode.j0])
    | succ kj1 =>
      have H := HA.out
      clear HA
      simp only [pintleref03_Encode.j0] at H
      by_cases c7 : x16_1 = true
      · subst c7
        have H1 : (if a0_1 = 0 then (if a0_2 = 0 then (if a0_3 = 0 then (if a0_4 = 0 then (some (115 + wrap64 (a0_0 - 47) % 4294967296 * 1048576 % 4294967296, true)) else (some (0, false))) else (some (0, false))) else (some (0, false))) else (some (0, false))) = some (r1, r2) := by rw [if_pos rfl] at H; exact H
        clear H
        have H := H1
        clear H1
        by_cases c8 : a0_1 = 0
        · rw [if_pos c8] at H
          have c8b0 : (a0_1 == 0) = true := beq_iff_eq.mpr c8
          have c8b1 : (a0_1 != 0) = false := bne_eq_false_iff_eq.mpr c8
          clear c8
          by_cases c9 : a0_2 = 0
          · rw [if_pos c9] at H
            have c9b0 : (a0_2 == 0) = true := beq_iff_eq.mpr c9
            have c9b1 : (a0_2 != 0) = false := bne_eq_false_iff_eq.mpr c9
            clear c9
            by_cases c10 : a0_3 = 0
            · rw [if_pos c10] at H
              have c10b0 : (a0_3 == 0) = true := beq_iff_eq.mpr c10
              have c10b1 : (a0_3 != 0) = false := bne_eq_false_iff_eq.mpr c10
              clear c10
              by_cases c11 : a0_4 = 0
              · rw [if_pos c11] at H
                have c11b0 : (a0_4 == 0) = true := beq_iff_eq.mpr c11
                have c11b1 : (a0_4 != 0) = false := bne_eq_false_iff_eq.mpr c11
                clear c11
                simp only [Option.some.injEq, Prod.mk.injEq] at H
                obtain ⟨rfl, rfl⟩ := H
                have hcz12_0 : wc.cell? ⟨gb268, 0, none⟩ = some (.int .i64 a0_0) := (blk_cell BK268.out 0).trans rfl
                have hcz12_1 : wc.cell? ⟨gb268, 1, none⟩ = some (.int .i64 a0_1) := (blk_cell BK268.out 1).trans rfl
                have hcz12_2 : wc.cell? ⟨gb268, 2, none⟩ = some (.int .i64 a0_2) := (blk_cell BK268.out 2).trans rfl
                have hcz12_3 : wc.cell? ⟨gb268, 3, none⟩ = some (.int .i64 a0_3) := (blk_cell BK268.out 3).trans rfl
                have hcz12_4 : wc.cell? ⟨gb268, 4, none⟩ = some (.int .i32 a0_4) := (blk_cell BK268.out 4).trans rfl
                have hfz12_0 := blk_frozen BK268.out 0
                have hfz12_1 := blk_frozen BK268.out 1
                have hfz12_2 := blk_frozen BK268.out 2
                have hfz12_3 := blk_frozen BK268.out 3
                have hfz12_4 := blk_frozen BK268.out 4
                go_wp2
                repeat (go_quiet (fail); try go_wp2)
                go_ret2
                exact ⟨by first | rfl | (simp [errW_none, errW_some] <;> rfl) | (simp [*, errW_none, errW_some] <;> rfl), by repeat (first | (with_reducible first | exact HB.out | apply below_alloc | apply pw_below_drewN | apply below_drew1 | refine below_set ?_ GE268.out) | exact HB.out)⟩
              · rw [if_neg c11] at H
                have c11b0 : (a0_4 == 0) = false := beq_eq_false_iff_ne.mpr c11
                have c11b1 : (a0_4 != 0) = true := bne_iff_ne.mpr c11
                simp only [Option.some.injEq, Prod.mk.injEq] at H
                obtain ⟨rfl, rfl⟩ := H
                have hcz13_0 : wc.cell? ⟨gb268, 0, none⟩ = some (.int .i64 a0_0) := (blk_cell BK268.out 0).trans rfl
                have hcz13_1 : wc.cell? ⟨gb268, 1, none⟩ = some (.int .i64 a0_1) := (blk_cell BK268.out 1).trans rfl
                have hcz13_2 : wc.cell? ⟨gb268, 2, none⟩ = some (.int .i64 a0_2) := (blk_cell BK268.out 2).trans rfl
                have hcz13_3 : wc.cell? ⟨gb268, 3, none⟩ = some (.int .i64 a0_3) := (blk_cell BK268.out 3).trans rfl
                have hcz13_4 : wc.cell? ⟨gb268, 4, none⟩ = some (.int .i32 a0_4) := (blk_cell BK268.out 4).trans rfl
                have hfz13_0 := blk_frozen BK268.out 0
                have hfz13_1 := blk_frozen BK268.out 1
                have hfz13_2 := blk_frozen BK268.out 2
                have hfz13_3 := blk_frozen BK268.out 3
                have hfz13_4 := blk_frozen BK268.out 4
                go_wp2
                repeat (go_quiet (fail); try go_wp2)
                go_ret2
                exact ⟨by first | rfl | (simp [errW_none, errW_some] <;> rfl) | (simp [*, errW_none, errW_some] <;> rfl), by repeat (first | (with_reducible first | exact HB.out | apply below_alloc | apply pw_below_drewN | apply below_drew1 | refine below_set ?_ GE268.out) | exact HB.out)⟩
            · rw [if_neg c10] at H
              have c10b0 : (a0_3 == 0) = false := beq_eq_false_iff_ne.mpr c10
              have c10b1 : (a0_3 != 0) = true := bne_iff_ne.mpr c10
              simp only [Option.some.injEq, Prod.mk.injEq] at H
              obtain ⟨rfl, rfl⟩ := H
              have hcz14_0 : wc.cell? ⟨gb268, 0, none⟩ = some (.int .i64 a0_0) := (blk_cell BK268.out 0).trans rfl
              have hcz14_1 : wc.cell? ⟨gb268, 1, none⟩ = some (.int .i64 a0_1) := (blk_cell BK268.out 1).trans rfl
              have hcz14_2 : wc.cell? ⟨gb268, 2, none⟩ = some (.int .i64 a0_2) := (blk_cell BK268.out 2).trans rfl
              have hcz14_3 : wc.cell? ⟨gb268, 3, none⟩ = some (.int .i64 a0_3) := (blk_cell BK268.out 3).trans rfl
              have hcz14_4 : wc.cell? ⟨gb268, 4, none⟩ = some (.int .i32 a0_4) := (blk_cell BK268.out 4).trans rfl
              have hfz14_0 := blk_frozen BK268.out 0
              have hfz14_1 := blk_frozen BK268.out 1
              have hfz14_2 := blk_frozen BK268.out 2
              have hfz14_3 := blk_frozen BK268.out 3
              have hfz14_4 := blk_frozen BK268.out 4
              go_wp2
              repeat (go_quiet (fail); try go_wp2)
              go_ret2
              exact ⟨by first | rfl | (simp [errW_none, errW_some] <;> rfl) | (simp [*, errW_none, errW_some] <;> rfl), by repeat (first | (with_reducible first | exact HB.out | apply below_alloc | apply pw_below_drewN | apply below_drew1 | refine below_set ?_ GE268.out) | exact HB.out)⟩
          · rw [if_neg c9] at H
            have c9b0 : (a0_2 == 0) = false := beq_eq_false_iff_ne.mpr c9
            have c9b1 : (a0_2 != 0) = true := bne_iff_ne.mpr c9
            simp only [Option.some.injEq, Prod.mk.injEq] at H
            obtain ⟨rfl, rfl⟩ := H
            have hcz15_0 : wc.cell? ⟨gb268, 0, none⟩ = some (.int .i64 a0_0) := (blk_cell BK268.out 0).trans rfl
            have hcz15_1 : wc.cell? ⟨gb268, 1, none⟩ = some (.int .i64 a0_1) := (blk_cell BK268.out 1).trans rfl
            have hcz15_2 : wc.cell? ⟨gb268, 2, none⟩ = some (.int .i64 a0_2) := (blk_cell BK268.out 2).trans rfl
            have hcz15_3 : wc.cell? ⟨gb268, 3, none⟩ = some (.int .i64 a0_3) := (blk_cell BK268.out 3).trans rfl
            have hcz15_4 : wc.cell? ⟨gb268, 4, none⟩ = some (.int .i32 a0_4) := (blk_cell BK268.out 4).trans rfl
            have hfz15_0 := blk_frozen BK268.out 0
            have hfz15_1 := blk_frozen BK268.out 1
            have hfz15_2 := blk_frozen BK268.out 2
            have hfz15_3 := blk_frozen BK268.out 3
            have hfz15_4 := blk_frozen BK268.out 4
            go_wp2
            repeat (go_quiet (fail); try go_wp2)
            go_ret2
            exact ⟨by first | rfl | (simp [errW_none, errW_some] <;> rfl) | (simp [*, errW_none, errW_some] <;> rfl), by repeat (first | (with_reducible first | exact HB.out | apply below_alloc | apply pw_below_drewN | apply below_drew1 | refine below_set ?_ GE268.out) | exact HB.out)⟩
        · rw [if_neg c8] at H
          have c8b0 : (a0_1 == 0) = false := beq_eq_false_iff_ne.mpr c8
          have c8b1 : (a0_1 != 0) = true := bne_iff_ne.mpr c8
          simp only [Option.some.injEq, Prod.mk.injEq] at H
          obtain ⟨rfl, rfl⟩ := H
          have hcz16_0 : wc.cell? ⟨gb268, 0, none⟩ = some (.int .i64 a0_0) := (blk_cell BK268.out 0).trans rfl
          have hcz16_1 : wc.cell? ⟨gb268, 1, none⟩ = some (.int .i64 a0_1) := (blk_cell BK268.out 1).trans rfl
          have hcz16_2 : wc.cell? ⟨gb268, 2, none⟩ = some (.int .i64 a0_2) := (blk_cell BK268.out 2).trans rfl
          have hcz16_3 : wc.cell? ⟨gb268, 3, none⟩ = some (.int .i64 a0_3) := (blk_cell BK268.out 3).trans rfl
          have hcz16_4 : wc.cell? ⟨gb268, 4, none⟩ = some (.int .i32 a0_4) := (blk_cell BK268.out 4).trans rfl
          have hfz16_0 := blk_frozen BK268.out 0
          have hfz16_1 := blk_frozen BK268.out 1
          have hfz16_2 := blk_frozen BK268.out 2
          have hfz16_3 := blk_frozen BK268.out 3
          have hfz16_4 := blk_frozen BK268.out 4
          go_wp2
          repeat (go_quiet (fail); try go_wp2)
          go_ret2
          exact ⟨by first | rfl | (simp [errW_none, errW_some] <;> rfl) | (simp [*, errW_none, errW_some] <;> rfl), by repeat (first | (with_reducible first | exact HB.out | apply below_alloc | apply pw_below_drewN | apply below_drew1 | refine below_set ?_ GE268.out) | exact HB.out)⟩
      · replace c7 := Bool.eq_false_iff.mpr c7
        subst c7
        have H1 : ((pintleref03_Of.f kj1 a0_0).bind fun bt269 => (if bt269.2.2.2.2.2.2.2 = true then ((pintleref03_reg.f a0_1 bt269.2.2.2.2.1).bind fun t278 => (if t278 = true then ((pintleref03_reg.f a0_2 bt269.2.2.2.2.2.1).bind fun t279 => (if t279 = true then ((pintleref03_reg.f a0_3 bt269.2.2.2.2.2.2.1).bind fun t280 => (pintleref03_Encode.j1 kj1 (!t280) a0_0 a0_1 a0_2 a0_3 a0_4 bt269.1 bt269.2.1 bt269.2.2.1 bt269.2.2.2.1 bt269.2.2.2.2.1 bt269.2.2.2.2.2.1 bt269.2.2.2.2.2.2.1)) else (pintleref03_Encode.j1 kj1 true a0_0 a0_1 a0_2 a0_3 a0_4 bt269.1 bt269.2.1 bt269.2.2.1 bt269.2.2.2.1 bt269.2.2.2.2.1 bt269.2.2.2.2.2.1 bt269.2.2.2.2.2.2.1))) else (pintleref03_Encode.j1 kj1 true a0_0 a0_1 a0_2 a0_3 a0_4 bt269.1 bt269.2.1 bt269.2.2.1 bt269.2.2.2.1 bt269.2.2.2.2.1 bt269.2.2.2.2.2.1 bt269.2.2.2.2.2.2.1))) else (pintleref03_Encode.j1 kj1 true a0_0 a0_1 a0_2 a0_3 a0_4 bt269.1 bt269.2.1 bt269.2.2.1 bt269.2.2.2.1 bt269.2.2.2.2.1 bt269.2.2.2.2.2.1 bt269.2.2.2.2.2.2.1))) = some (r1, r2) := by rw [if_neg (show ¬ (false = true) by decide)] at H; exact H
        clear H
        have H := H1
        clear H1
        replace H := Option.bind_eq_some_iff.mp H
        obtain ⟨⟨t269, t270, t271, t272, t273, t274, t275, t276⟩, A170, H⟩ := H
        replace H : (if t276 = true then ((pintleref03_reg.f a0_1 t273).bind fun t278 => (if t278 = true then ((pintleref03_reg.f a0_2 t274).bind fun t279 => (if t279 = true then ((pintleref03_reg.f a0_3 t275).bind fun t280 => (pintleref03_Encode.j1 kj1 (!t280) a0_0 a0_1 a0_2 a0_3 a0_4 t269 t270 t271 t272 t273 t274 t275)) else (pintleref03_Encode.j1 kj1 true a0_0 a0_1 a0_2 a0_3 a0_4 t269 t270 t271 t272 t273 t274 t275))) else (pintleref03_Encode.j1 kj1 true a0_0 a0_1 a0_2 a0_3 a0_4 t269 t270 t271 t272 t273 t274 t275))) else (pintleref03_Encode.j1 kj1 true a0_0 a0_1 a0_2 a0_3 a0_4 t269 t270 t271 t272 t273 t274 t275)) = some (r1, r2) := H
        have A17 := Aside0.mk A170
        clear A170
        have HC18 := Aside0.mk H
        clear H
        have hcz19_0 : wc.cell? ⟨gb268, 0, none⟩ = some (.int .i64 a0_0) := (blk_cell BK268.out 0).trans rfl
        have hcz19_1 : wc.cell? ⟨gb268, 1, none⟩ = some (.int .i64 a0_1) := (blk_cell BK268.out 1).trans rfl
        have hcz19_2 : wc.cell? ⟨gb268, 2, none⟩ = some (.int .i64 a0_2) := (blk_cell BK268.out 2).trans rfl
        have hcz19_3 : wc.cell? ⟨gb268, 3, none⟩ = some (.int .i64 a0_3) := (blk_cell BK268.out 3).trans rfl
        have hcz19_4 : wc.cell? ⟨gb268, 4, none⟩ = some (.int .i32 a0_4) := (blk_cell BK268.out 4).trans rfl
        have hfz19_0 := blk_frozen BK268.out 0
        have hfz19_1 := blk_frozen BK268.out 1
        have hfz19_2 := blk_frozen BK268.out 2
        have hfz19_3 := blk_frozen BK268.out 3
        have hfz19_4 := blk_frozen BK268.out 4
        go_upto_region 6 with (first | (go_at_call 15; (with_reducible refine (pintleref03_Of.calls kj1 a0_0 t269 t270 t271 t272 t273 t274 t275 t276 _ A17.out).mono ?_); rintro e w20 ⟨rfl, hb⟩; have n0_ := Aside0.mk (blk_below (g := gb268) (o := .cells #[.int .i64 a0_0, .int .i64 a0_1, .int .i64 a0_2, .int .i64 a0_3, .int .i32 a0_4] 24 (0, 0)) (by (with_reducible repeat (first | refine blk_drewN ?_ _ | refine blk_drew ?_ | refine blk_alloc ?_ _)); exact BK268.out) hb); have n1_ := Aside0.mk (below_step (by repeat (first | (with_reducible first | exact HB.out | apply below_alloc | apply pw_below_drewN | apply below_drew1 | refine below_set ?_ GE268.out) | exact HB.out)) hb); clear BK268; clear HB; have BK268 := n0_; have HB := n1_; clear n0_ n1_; (try clear hb); (try clear hb2); (try clear hk); (try clear hi)) | ((with_reducible refine gate_dst (N := 4) rfl ?_); refine box_event ?hg (N := 4) ?hd (cs := #[.int .u32 0, .int .u32 0, .int .u32 0, .int .i64 0, .bool false, .bool false, .bool false]) (t := 34) ?hr ?_; (case hd => rfl); (case hg => rfl); (case hr => first | (go_simp; done) | (go_simp; rfl)); intro gb277 hg w21 hbox hb; have n0_ := Aside0.mk (blk_below (g := gb268) (o := .cells #[.int .i64 a0_0, .int .i64 a0_1, .int .i64 a0_2, .int .i64 a0_3, .int .i32 a0_4] 24 (0, 0)) (by (with_reducible repeat (first | refine blk_drewN ?_ _ | refine blk_drew ?_ | refine blk_alloc ?_ _)); exact BK268.out) hb); have n1_ := Aside0.mk (below_step (by repeat (first | (with_reducible first | exact HB.out | apply below_alloc | apply pw_below_drewN | apply below_drew1 | refine below_set ?_ GE268.out) | exact HB.out)) hb); have n2_ := Aside0.mk (hbox); have n3_ := Aside0.mk ((by rw [hg]; exact (below_size (by repeat (first | (with_reducible first | exact HB.out | apply below_alloc | apply pw_below_drewN | apply below_drew1 | refine below_set ?_ GE268.out) | exact HB.out))) : w.heap.size ≤ gb277)); have n4_ := Aside0.mk ((by rw [hg]; exact (below_size (by repeat (first | (with_reducible first | exact HB.out | apply below_alloc | apply pw_below_drewN | apply below_drew1 | refine below_set ?_ GE268.out) | exact HB.out))) : w.heap.size ≤ gb277)); have n5_ := Aside0.mk ((by rw [hg]; exact Nat.ne_of_lt (blk_lt (g := gb268) (o := .cells #[.int .i64 a0_0, .int .i64 a0_1, .int .i64 a0_2, .int .i64 a0_3, .int .i32 a0_4] 24 (0, 0)) (by (with_reducible repeat (first | refine blk_drewN ?_ _ | refine blk_drew ?_ | refine blk_alloc ?_ _)); exact BK268.out)) : gb268 ≠ gb277)); have n6_ := Aside0.mk ((by rw [hg]; exact Nat.ne_of_gt (blk_lt (g := gb268) (o := .cells #[.int .i64 a0_0, .int .i64 a0_1, .int .i64 a0_2, .int .i64 a0_3, .int .i32 a0_4] 24 (0, 0)) (by (with_reducible repeat (first | refine blk_drewN ?_ _ | refine blk_drew ?_ | refine blk_alloc ?_ _)); exact BK268.out)) : gb277 ≠ gb268)); clear BK268; clear HB; have BK268 := n0_; have HB := n1_; have BK277 := n2_; have GW277 := n3_; have GE277 := n4_; have NB268_277 := n5_; have NB277_268 := n6_; clear n0_ n1_ n2_ n3_ n4_ n5_ n6_; clear hb hbox hg; have hnb22 := NB277_268.out; have hnc22 := NB268_277.out; have hcz23_0 : w21.cell? ⟨gb277, 0, none⟩ = some (.int .u32 0) := (blk_cell BK277.out 0).trans rfl; have hcz23_1 : w21.cell? ⟨gb277, 1, none⟩ = some (.int .u32 0) := (blk_cell BK277.out 1).trans rfl; have hcz23_2 : w21.cell? ⟨gb277, 2, none⟩ = some (.int .u32 0) := (blk_cell BK277.out 2).trans rfl; have hcz23_3 : w21.cell? ⟨gb277, 3, none⟩ = some (.int .i64 0) := (blk_cell BK277.out 3).trans rfl; have hcz23_4 : w21.cell? ⟨gb277, 4, none⟩ = some (.bool false) := (blk_cell BK277.out 4).trans rfl; have hcz23_5 : w21.cell? ⟨gb277, 5, none⟩ = some (.bool false) := (blk_cell BK277.out 5).trans rfl; have hcz23_6 : w21.cell? ⟨gb277, 6, none⟩ = some (.bool false) := (blk_cell BK277.out 6).trans rfl; have hfz23_0 := blk_frozen BK277.out 0; have hfz23_1 := blk_frozen BK277.out 1; have hfz23_2 := blk_frozen BK277.out 2; have hfz23_3 := blk_frozen BK277.out 3; have hfz23_4 := blk_frozen BK277.out 4; have hfz23_5 := blk_frozen BK277.out 5; have hfz23_6 := blk_frozen BK277.out 6))
        repeat (go_quiet (first | (go_at_call 15; (with_reducible refine (pintleref03_Of.calls kj1 a0_0 t269 t270 t271 t272 t273 t274 t275 t276 _ A17.out).mono ?_); rintro e w20 ⟨rfl, hb⟩; have n0_ := Aside0.mk (blk_below (g := gb268) (o := .cells #[.int .i64 a0_0, .int .i64 a0_1, .int .i64 a0_2, .int .i64 a0_3, .int .i32 a0_4] 24 (0, 0)) (by (with_reducible repeat (first | refine blk_drewN ?_ _ | refine blk_drew ?_ | refine blk_alloc ?_ _)); exact BK268.out) hb); have n1_ := Aside0.mk (below_step (by repeat (first | (with_reducible first | exact HB.out | apply below_alloc | apply pw_below_drewN | apply below_drew1 | refine below_set ?_ GE268.out) | exact HB.out)) hb); clear BK268; clear HB; have BK268 := n0_; have HB := n1_; clear n0_ n1_; (try clear hb); (try clear hb2); (try clear hk); (try clear hi)) | ((with_reducible refine gate_dst (N := 4) rfl ?_); refine box_event ?hg (N := 4) ?hd (cs := #[.int .u32 0, .int .u32 0, .int .u32 0, .int .i64 0, .bool false, .bool false, .bool false]) (t := 34) ?hr ?_; (case hd => rfl); (case hg => rfl); (case hr => first | (go_simp; done) | (go_simp; rfl)); intro gb277 hg w21 hbox hb; have n0_ := Aside0.mk (blk_below (g := gb268) (o := .cells #[.int .i64 a0_0, .int .i64 a0_1, .int .i64 a0_2, .int .i64 a0_3, .int .i32 a0_4] 24 (0, 0)) (by (with_reducible repeat (first | refine blk_drewN ?_ _ | refine blk_drew ?_ | refine blk_alloc ?_ _)); exact BK268.out) hb); have n1_ := Aside0.mk (below_step (by repeat (first | (with_reducible first | exact HB.out | apply below_alloc | apply pw_below_drewN | apply below_drew1 | refine below_set ?_ GE268.out) | exact HB.out)) hb); have n2_ := Aside0.mk (hbox); have n3_ := Aside0.mk ((by rw [hg]; exact (below_size (by repeat (first | (with_reducible first | exact HB.out | apply below_alloc | apply pw_below_drewN | apply below_drew1 | refine below_set ?_ GE268.out) | exact HB.out))) : w.heap.size ≤ gb277)); have n4_ := Aside0.mk ((by rw [hg]; exact (below_size (by repeat (first | (with_reducible first | exact HB.out | apply below_alloc | apply pw_below_drewN | apply below_drew1 | refine below_set ?_ GE268.out) | exact HB.out))) : w.heap.size ≤ gb277)); have n5_ := Aside0.mk ((by rw [hg]; exact Nat.ne_of_lt (blk_lt (g := gb268) (o := .cells #[.int .i64 a0_0, .int .i64 a0_1, .int .i64 a0_2, .int .i64 a0_3, .int .i32 a0_4] 24 (0, 0)) (by (with_reducible repeat (first | refine blk_drewN ?_ _ | refine blk_drew ?_ | refine blk_alloc ?_ _)); exact BK268.out)) : gb268 ≠ gb277)); have n6_ := Aside0.mk ((by rw [hg]; exact Nat.ne_of_gt (blk_lt (g := gb268) (o := .cells #[.int .i64 a0_0, .int .i64 a0_1, .int .i64 a0_2, .int .i64 a0_3, .int .i32 a0_4] 24 (0, 0)) (by (with_reducible repeat (first | refine blk_drewN ?_ _ | refine blk_drew ?_ | refine blk_alloc ?_ _)); exact BK268.out)) : gb277 ≠ gb268)); clear BK268; clear HB; have BK268 := n0_; have HB := n1_; have BK277 := n2_; have GW277 := n3_; have GE277 := n4_; have NB268_277 := n5_; have NB277_268 := n6_; clear n0_ n1_ n2_ n3_ n4_ n5_ n6_; clear hb hbox hg; have hnb22 := NB277_268.out; have hnc22 := NB268_277.out; have hcz23_0 : w21.cell? ⟨gb277, 0, none⟩ = some (.int .u32 0) := (blk_cell BK277.out 0).trans rfl; have hcz23_1 : w21.cell? ⟨gb277, 1, none⟩ = some (.int .u32 0) := (blk_cell BK277.out 1).trans rfl; have hcz23_2 : w21.cell? ⟨gb277, 2, none⟩ = some (.int .u32 0) := (blk_cell BK277.out 2).trans rfl; have hcz23_3 : w21.cell? ⟨gb277, 3, none⟩ = some (.int .i64 0) := (blk_cell BK277.out 3).trans rfl; have hcz23_4 : w21.cell? ⟨gb277, 4, none⟩ = some (.bool false) := (blk_cell BK277.out 4).trans rfl; have hcz23_5 : w21.cell? ⟨gb277, 5, none⟩ = some (.bool false) := (blk_cell BK277.out 5).trans rfl; have hcz23_6 : w21.cell? ⟨gb277, 6, none⟩ = some (.bool false) := (blk_cell BK277.out 6).trans rfl; have hfz23_0 := blk_frozen BK277.out 0; have hfz23_1 := blk_frozen BK277.out 1; have hfz23_2 := blk_frozen BK277.out 2; have hfz23_3 := blk_frozen BK277.out 3; have hfz23_4 := blk_frozen BK277.out 4; have hfz23_5 := blk_frozen BK277.out 5; have hfz23_6 := blk_frozen BK277.out 6)); go_upto_region 6 with (first | (go_at_call 15; (with_reducible refine (pintleref03_Of.calls kj1 a0_0 t269 t270 t271 t272 t273 t274 t275 t276 _ A17.out).mono ?_); rintro e w20 ⟨rfl, hb⟩; have n0_ := Aside0.mk (blk_below (g := gb268) (o := .cells #[.int .i64 a0_0, .int .i64 a0_1, .int .i64 a0_2, .int .i64 a0_3, .int .i32 a0_4] 24 (0, 0)) (by (with_reducible repeat (first | refine blk_drewN ?_ _ | refine blk_drew ?_ | refine blk_alloc ?_ _)); exact BK268.out) hb); have n1_ := Aside0.mk (below_step (by repeat (first | (with_reducible first | exact HB.out | apply below_alloc | apply pw_below_drewN | apply below_drew1 | refine below_set ?_ GE268.out) | exact HB.out)) hb); clear BK268; clear HB; have BK268 := n0_; have HB := n1_; clear n0_ n1_; (try clear hb); (try clear hb2); (try clear hk); (try clear hi)) | ((with_reducible refine gate_dst (N := 4) rfl ?_); refine box_event ?hg (N := 4) ?hd (cs := #[.int .u32 0, .int .u32 0, .int .u32 0, .int .i64 0, .bool false, .bool false, .bool false]) (t := 34) ?hr ?_; (case hd => rfl); (case hg => rfl); (case hr => first | (go_simp; done) | (go_simp; rfl)); intro gb277 hg w21 hbox hb; have n0_ := Aside0.mk (blk_below (g := gb268) (o := .cells #[.int .i64 a0_0, .int .i64 a0_1, .int .i64 a0_2, .int .i64 a0_3, .int .i32 a0_4] 24 (0, 0)) (by (with_reducible repeat (first | refine blk_drewN ?_ _ | refine blk_drew ?_ | refine blk_alloc ?_ _)); exact BK268.out) hb); have n1_ := Aside0.mk (below_step (by repeat (first | (with_reducible first | exact HB.out | apply below_alloc | apply pw_below_drewN | apply below_drew1 | refine below_set ?_ GE268.out) | exact HB.out)) hb); have n2_ := Aside0.mk (hbox); have n3_ := Aside0.mk ((by rw [hg]; exact (below_size (by repeat (first | (with_reducible first | exact HB.out | apply below_alloc | apply pw_below_drewN | apply below_drew1 | refine below_set ?_ GE268.out) | exact HB.out))) : w.heap.size ≤ gb277)); have n4_ := Aside0.mk ((by rw [hg]; exact (below_size (by repeat (first | (with_reducible first | exact HB.out | apply below_alloc | apply pw_below_drewN | apply below_drew1 | refine below_set ?_ GE268.out) | exact HB.out))) : w.heap.size ≤ gb277)); have n5_ := Aside0.mk ((by rw [hg]; exact Nat.ne_of_lt (blk_lt (g := gb268) (o := .cells #[.int .i64 a0_0, .int .i64 a0_1, .int .i64 a0_2, .int .i64 a0_3, .int .i32 a0_4] 24 (0, 0)) (by (with_reducible repeat (first | refine blk_drewN ?_ _ | refine blk_drew ?_ | refine blk_alloc ?_ _)); exact BK268.out)) : gb268 ≠ gb277)); have n6_ := Aside0.mk ((by rw [hg]; exact Nat.ne_of_gt (blk_lt (g := gb268) (o := .cells #[.int .i64 a0_0, .int .i64 a0_1, .int .i64 a0_2, .int .i64 a0_3, .int .i32 a0_4] 24 (0, 0)) (by (with_reducible repeat (first | refine blk_drewN ?_ _ | refine blk_drew ?_ | refine blk_alloc ?_ _)); exact BK268.out)) : gb277 ≠ gb268)); clear BK268; clear HB; have BK268 := n0_; have HB := n1_; have BK277 := n2_; have GW277 := n3_; have GE277 := n4_; have NB268_277 := n5_; have NB277_268 := n6_; clear n0_ n1_ n2_ n3_ n4_ n5_ n6_; clear hb hbox hg; have hnb22 := NB277_268.out; have hnc22 := NB268_277.out; have hcz23_0 : w21.cell? ⟨gb277, 0, none⟩ = some (.int .u32 0) := (blk_cell BK277.out 0).trans rfl; have hcz23_1 : w21.cell? ⟨gb277, 1, none⟩ = some (.int .u32 0) := (blk_cell BK277.out 1).trans rfl; have hcz23_2 : w21.cell? ⟨gb277, 2, none⟩ = some (.int .u32 0) := (blk_cell BK277.out 2).trans rfl; have hcz23_3 : w21.cell? ⟨gb277, 3, none⟩ = some (.int .i64 0) := (blk_cell BK277.out 3).trans rfl; have hcz23_4 : w21.cell? ⟨gb277, 4, none⟩ = some (.bool false) := (blk_cell BK277.out 4).trans rfl; have hcz23_5 : w21.cell? ⟨gb277, 5, none⟩ = some (.bool false) := (blk_cell BK277.out 5).trans rfl; have hcz23_6 : w21.cell? ⟨gb277, 6, none⟩ = some (.bool false) := (blk_cell BK277.out 6).trans rfl; have hfz23_0 := blk_frozen BK277.out 0; have hfz23_1 := blk_frozen BK277.out 1; have hfz23_2 := blk_frozen BK277.out 2; have hfz23_3 := blk_frozen BK277.out 3; have hfz23_4 := blk_frozen BK277.out 4; have hfz23_5 := blk_frozen BK277.out 5; have hfz23_6 := blk_frozen BK277.out 6)))
        (try simp only [Act.put, List.setIfInBounds_toArray, List.set_cons_zero, List.set_cons_succ])
        go_cut [72] (fun v72 wc => ∃ (kq : Nat) (x72_17 : Bool), v72 = .bool x72_17 ∧ Aside0 (pintleref03_Encode.j1 kq x72_17 a0_0 a0_1 a0_2 a0_3 a0_4 t269 t270 t271 t272 t273 t274 t275 = some (r1, r2)) ∧ Aside0 (kq ≤ kj1) ∧ Aside0 (wc.heap[gb268]? = some (.cells #[.int .i64 a0_0, .int .i64 a0_1, .int .i64 a0_2, .int .i64 a0_3, .int .i32 a0_4] 24 (0, 0))) ∧ Aside0 (wc.heap[gb277]? = some (.cells #[.int .u32 t269, .int .u32 t270, .int .u32 t271, .int .i64 t272, .bool t273, .bool t274, .bool t275] 34 (0, 0))) ∧ Aside0 (Below w.heap.size w wc))
        case first =>
          have H := HC18.out
          clear HC18
          by_cases c24 : t276 = true
          · subst c24
            have H1 : ((pintleref03_reg.f a0_1 t273).bind fun t278 => (if t278 = true then ((pintleref03_reg.f a0_2 t274).bind fun t279 => (if t279 = true then ((pintleref03_reg.f a0_3 t275).bind fun t280 => (pintleref03_Encode.j1 kj1 (!t280) a0_0 a0_1 a0_2 a0_3 a0_4 t269 t270 t271 t272 t273 t274 t275)) else (pintleref03_Encode.j1 kj1 true a0_0 a0_1 a0_2 a0_3 a0_4 t269 t270 t271 t272 t273 t274 t275))) else (pintleref03_Encode.j1 kj1 true a0_0 a0_1 a0_2 a0_3 a0_4 t269 t270 t271 t272 t273 t274 t275))) = some (r1, r2) := by rw [if_pos rfl] at H; exact H
            clear H
            have H := H1
            clear H1
            replace H := Option.bind_eq_some_iff.mp H
            obtain ⟨t278, A250, H⟩ := H
            replace H : (if t278 = true then ((pintleref03_reg.f a0_2 t274).bind fun t279 => (if t279 = true then ((pintleref03_reg.f a0_3 t275).bind fun t280 => (pintleref03_Encode.j1 kj1 (!t280) a0_0 a0_1 a0_2 a0_3 a0_4 t269 t270 t271 t272 t273 t274 t275)) else (pintleref03_Encode.j1 kj1 true a0_0 a0_1 a0_2 a0_3 a0_4 t269 t270 t271 t272 t273 t274 t275))) else (pintleref03_Encode.j1 kj1 true a0_0 a0_1 a0_2 a0_3 a0_4 t269 t270 t271 t272 t273 t274 t275)) = some (r1, r2) := H
            have A25 := Aside0.mk A250
            clear A250
            by_cases c26 : t278 = true
            · subst c26
              have H1 : ((pintleref03_reg.f a0_2 t274).bind fun t279 => (if t279 = true then ((pintleref03_reg.f a0_3 t275).bind fun t280 => (pintleref03_Encode.j1 kj1 (!t280) a0_0 a0_1 a0_2 a0_3 a0_4 t269 t270 t271 t272 t273 t274 t275)) else (pintleref03_Encode.j1 kj1 true a0_0 a0_1 a0_2 a0_3 a0_4 t269 t270 t271 t272 t273 t274 t275))) = some (r1, r2) := by rw [if_pos rfl] at H; exact H
              clear H
              have H := H1
              clear H1
              replace H := Option.bind_eq_some_iff.mp H
              obtain ⟨t279, A270, H⟩ := H
              replace H : (if t279 = true then ((pintleref03_reg.f a0_3 t275).bind fun t280 => (pintleref03_Encode.j1 kj1 (!t280) a0_0 a0_1 a0_2 a0_3 a0_4 t269 t270 t271 t272 t273 t274 t275)) else (pintleref03_Encode.j1 kj1 true a0_0 a0_1 a0_2 a0_3 a0_4 t269 t270 t271 t272 t273 t274 t275)) = some (r1, r2) := H
              have A27 := Aside0.mk A270
              clear A270
              by_cases c28 : t279 = true
              · subst c28
                have H1 : ((pintleref03_reg.f a0_3 t275).bind fun t280 => (pintleref03_Encode.j1 kj1 (!t280) a0_0 a0_1 a0_2 a0_3 a0_4 t269 t270 t271 t272 t273 t274 t275)) = some (r1, r2) := by rw [if_pos rfl] at H; exact H
                clear H
                have H := H1
                clear H1
                replace H := Option.bind_eq_some_iff.mp H
                obtain ⟨t280, A290, H⟩ := H
                replace H : (pintleref03_Encode.j1 kj1 (!t280) a0_0 a0_1 a0_2 a0_3 a0_4 t269 t270 t271 t272 t273 t274 t275) = some (r1, r2) := H
                have A29 := Aside0.mk A290
                clear A290
                have H' := Aside0.mk H
                clear H
                have hnb30 := NB268_277.out
                have hnc30 := NB277_268.out
                have hcz31_0 : w21.cell? ⟨gb268, 0, none⟩ = some (.int .i64 a0_0) := (blk_cell BK268.out 0).trans rfl
                have hcz31_1 : w21.cell? ⟨gb268, 1, none⟩ = some (.int .i64 a0_1) := (blk_cell BK268.out 1).trans rfl
                have hcz31_2 : w21.cell? ⟨gb268, 2, none⟩ = some (.int .i64 a0_2) := (blk_cell BK268.out 2).trans rfl
                have hcz31_3 : w21.cell? ⟨gb268, 3, none⟩ = some (.int .i64 a0_3) := (blk_cell BK268.out 3).trans rfl
                have hcz31_4 : w21.cell? ⟨gb268, 4, none⟩ = some (.int .i32 a0_4) := (blk_cell BK268.out 4).trans rfl
                have hfz31_0 := blk_frozen BK268.out 0
                have hfz31_1 := blk_frozen BK268.out 1
                have hfz31_2 := blk_frozen BK268.out 2
                have hfz31_3 := blk_frozen BK268.out 3
                have hfz31_4 := blk_frozen BK268.out 4
                have hcz32_0 : w21.cell? ⟨gb277, 0, none⟩ = some (.int .u32 0) := (blk_cell BK277.out 0).trans rfl
                have hcz32_1 : w21.cell? ⟨gb277, 1, none⟩ = some (.int .u32 0) := (blk_cell BK277.out 1).trans rfl
                have hcz32_2 : w21.cell? ⟨gb277, 2, none⟩ = some (.int .u32 0) := (blk_cell BK277.out 2).trans rfl
                have hcz32_3 : w21.cell? ⟨gb277, 3, none⟩ = some (.int .i64 0) := (blk_cell BK277.out 3).trans rfl
                have hcz32_4 : w21.cell? ⟨gb277, 4, none⟩ = some (.bool false) := (blk_cell BK277.out 4).trans rfl
                have hcz32_5 : w21.cell? ⟨gb277, 5, none⟩ = some (.bool false) := (blk_cell BK277.out 5).trans rfl
                have hcz32_6 : w21.cell? ⟨gb277, 6, none⟩ = some (.bool false) := (blk_cell BK277.out 6).trans rfl
                have hfz32_0 := blk_frozen BK277.out 0
                have hfz32_1 := blk_frozen BK277.out 1
                have hfz32_2 := blk_frozen BK277.out 2
                have hfz32_3 := blk_frozen BK277.out 3
                have hfz32_4 := blk_frozen BK277.out 4
                have hfz32_5 := blk_frozen BK277.out 5
                have hfz32_6 := blk_frozen BK277.out 6
                go_wp2_with (first | (go_at_call 25; (with_reducible refine (pintleref03_reg.calls a0_1 t273 true _ A25.out).mono ?_); rintro e w' ⟨rfl, ⟨nd, rfl⟩⟩; (try first | exact ⟨rfl, _, World.drewN_drewN _ _ _⟩ | exact ⟨rfl, _, Eq.trans (World.drewN_drewN _ _ _) (congrArg (World.drewN _) (Nat.add_assoc _ _ _))⟩)) | (go_at_call 25; (with_reducible refine (pintleref03_reg.calls a0_2 t274 true _ A27.out).mono ?_); rintro e w' ⟨rfl, ⟨nd, rfl⟩⟩; (try first | exact ⟨rfl, _, World.drewN_drewN _ _ _⟩ | exact ⟨rfl, _, Eq.trans (World.drewN_drewN _ _ _) (congrArg (World.drewN _) (Nat.add_assoc _ _ _))⟩)) | (go_at_call 25; (with_reducible refine (pintleref03_reg.calls a0_3 t275 t280 _ A29.out).mono ?_); rintro e w' ⟨rfl, ⟨nd, rfl⟩⟩; (try first | exact ⟨rfl, _, World.drewN_drewN _ _ _⟩ | exact ⟨rfl, _, Eq.trans (World.drewN_drewN _ _ _) (congrArg (World.drewN _) (Nat.add_assoc _ _ _))⟩)))
                repeat (go_quiet (first | (go_at_call 25; (with_reducible refine (pintleref03_reg.calls a0_1 t273 true _ A25.out).mono ?_); rintro e w' ⟨rfl, ⟨nd, rfl⟩⟩; (try first | exact ⟨rfl, _, World.drewN_drewN _ _ _⟩ | exact ⟨rfl, _, Eq.trans (World.drewN_drewN _ _ _) (congrArg (World.drewN _) (Nat.add_assoc _ _ _))⟩)) | (go_at_call 25; (with_reducible refine (pintleref03_reg.calls a0_2 t274 true _ A27.out).mono ?_); rintro e w' ⟨rfl, ⟨nd, rfl⟩⟩; (try first | exact ⟨rfl, _, World.drewN_drewN _ _ _⟩ | exact ⟨rfl, _, Eq.trans (World.drewN_drewN _ _ _) (congrArg (World.drewN _) (Nat.add_assoc _ _ _))⟩)) | (go_at_call 25; (with_reducible refine (pintleref03_reg.calls a0_3 t275 t280 _ A29.out).mono ?_); rintro e w' ⟨rfl, ⟨nd, rfl⟩⟩; (try first | exact ⟨rfl, _, World.drewN_drewN _ _ _⟩ | exact ⟨rfl, _, Eq.trans (World.drewN_drewN _ _ _) (congrArg (World.drewN _) (Nat.add_assoc _ _ _))⟩))); try go_wp2_with (first | (go_at_call 25; (with_reducible refine (pintleref03_reg.calls a0_1 t273 true _ A25.out).mono ?_); rintro e w' ⟨rfl, ⟨nd, rfl⟩⟩; (try first | exact ⟨rfl, _, World.drewN_drewN _ _ _⟩ | exact ⟨rfl, _, Eq.trans (World.drewN_drewN _ _ _) (congrArg (World.drewN _) (Nat.add_assoc _ _ _))⟩)) | (go_at_call 25; (with_reducible refine (pintleref03_reg.calls a0_2 t274 true _ A27.out).mono ?_); rintro e w' ⟨rfl, ⟨nd, rfl⟩⟩; (try first | exact ⟨rfl, _, World.drewN_drewN _ _ _⟩ | exact ⟨rfl, _, Eq.trans (World.drewN_drewN _ _ _) (congrArg (World.drewN _) (Nat.add_assoc _ _ _))⟩)) | (go_at_call 25; (with_reducible refine (pintleref03_reg.calls a0_3 t275 t280 _ A29.out).mono ?_); rintro e w' ⟨rfl, ⟨nd, rfl⟩⟩; (try first | exact ⟨rfl, _, World.drewN_drewN _ _ _⟩ | exact ⟨rfl, _, Eq.trans (World.drewN_drewN _ _ _) (congrArg (World.drewN _) (Nat.add_assoc _ _ _))⟩))))
                go_meet
                case rel => exact ⟨_, (!t280), (by first | rfl | (simp; done) | (simp [*]; done)), H', ⟨by have := HJ1.out; first | omega | exact Nat.le_refl _⟩, ⟨by (with_reducible repeat (first | refine blk_drewN ?_ _ | refine blk_drew ?_ | refine blk_alloc ?_ _)); refine blk_far ?_ NB268_277.out _; (with_reducible repeat (first | refine blk_drewN ?_ _ | refine blk_drew ?_ | refine blk_alloc ?_ _)); refine blk_far ?_ NB268_277.out _; (with_reducible repeat (first | refine blk_drewN ?_ _ | refine blk_drew ?_ | refine blk_alloc ?_ _)); refine blk_far ?_ NB268_277.out _; (with_reducible repeat (first | refine blk_drewN ?_ _ | refine blk_drew ?_ | refine blk_alloc ?_ _)); refine blk_far ?_ NB268_277.out _; (with_reducible repeat (first | refine blk_drewN ?_ _ | refine blk_drew ?_ | refine blk_alloc ?_ _)); refine blk_far ?_ NB268_277.out _; (with_reducible repeat (first | refine blk_drewN ?_ _ | refine blk_drew ?_ | refine blk_alloc ?_ _)); refine blk_far ?_ NB268_277.out _; (with_reducible repeat (first | refine blk_drewN ?_ _ | refine blk_drew ?_ | refine blk_alloc ?_ _)); refine blk_far ?_ NB268_277.out _; (with_reducible repeat (first | refine blk_drewN ?_ _ | refine blk_drew ?_ | refine blk_alloc ?_ _)); exact BK268.out⟩, ⟨by (with_reducible repeat (first | refine blk_drewN ?_ _ | refine blk_drew ?_ | refine blk_alloc ?_ _)); refine blk_put (cs := #[.int .u32 t269, .int .u32 t270, .int .u32 t271, .int .i64 t272, .bool t273, .bool t274, .bool false]) ?_ 6 _ rfl; (with_reducible repeat (first | refine blk_drewN ?_ _ | refine blk_drew ?_ | refine blk_alloc ?_ _)); refine blk_put (cs := #[.int .u32 t269, .int .u32 t270, .int .u32 t271, .int .i64 t272, .bool t273, .bool false, .bool false]) ?_ 5 _ rfl; (with_reducible repeat (first | refine blk_drewN ?_ _ | refine blk_drew ?_ | refine blk_alloc ?_ _)); refine blk_put (cs := #[.int .u32 t269, .int .u32 t270, .int .u32 t271, .int .i64 t272, .bool false, .bool false, .bool false]) ?_ 4 _ rfl; (with_reducible repeat (first | refine blk_drewN ?_ _ | refine blk_drew ?_ | refine blk_alloc ?_ _)); refine blk_put (cs := #[.int .u32 t269, .int .u32 t270, .int .u32 t271, .int .i64 0, .bool false, .bool false, .bool false]) ?_ 3 _ rfl; (with_reducible repeat (first | refine blk_drewN ?_ _ | refine blk_drew ?_ | refine blk_alloc ?_ _)); refine blk_put (cs := #[.int .u32 t269, .int .u32 t270, .int .u32 0, .int .i64 0, .bool false, .bool false, .bool false]) ?_ 2 _ rfl; (with_reducible repeat (first | refine blk_drewN ?_ _ | refine blk_drew ?_ | refine blk_alloc ?_ _)); refine blk_put (cs := #[.int .u32 t269, .int .u32 0, .int .u32 0, .int .i64 0, .bool false, .bool false, .bool false]) ?_ 1 _ rfl; (with_reducible repeat (first | refine blk_drewN ?_ _ | refine blk_drew ?_ | refine blk_alloc ?_ _)); refine blk_put (cs := #[.int .u32 0, .int .u32 0, .int .u32 0, .int .i64 0, .bool false, .bool false, .bool false]) ?_ 0 _ rfl; (with_reducible repeat (first | refine blk_drewN ?_ _ | refine blk_drew ?_ | refine blk_alloc ?_ _)); exact BK277.out⟩, ⟨by repeat (first | (with_reducible first | exact HB.out | apply below_alloc | apply pw_below_drewN | apply below_drew1 | refine below_set ?_ GE268.out | refine below_set ?_ GE277.out) | exact HB.out)⟩⟩
              · replace c28 := Bool.eq_false_iff.mpr c28
                subst c28
                have H1 : (pintleref03_Encode.j1 kj1 true a0_0 a0_1 a0_2 a0_3 a0_4 t269 t270 t271 t272 t273 t274 t275) = some (r1, r2) := by rw [if_neg (show ¬ (false = true) by decide)] at H; exact H
                clear H
                have H := H1
                clear H1
                have H' := Aside0.mk H
                clear H
                have hnb33 := NB268_277.out
                have hnc33 := NB277_268.out
                have hcz34_0 : w21.cell? ⟨gb268, 0, none⟩ = some (.int .i64 a0_0) := (blk_cell BK268.out 0).trans rfl
                have hcz34_1 : w21.cell? ⟨gb268, 1, none⟩ = some (.int .i64 a0_1) := (blk_cell BK268.out 1).trans rfl
                have hcz34_2 : w21.cell? ⟨gb268, 2, none⟩ = some (.int .i64 a0_2) := (blk_cell BK268.out 2).trans rfl
                have hcz34_3 : w21.cell? ⟨gb268, 3, none⟩ = some (.int .i64 a0_3) := (blk_cell BK268.out 3).trans rfl
                have hcz34_4 : w21.cell? ⟨gb268, 4, none⟩ = some (.int .i32 a0_4) := (blk_cell BK268.out 4).trans rfl
                have hfz34_0 := blk_frozen BK268.out 0
                have hfz34_1 := blk_frozen BK268.out 1
                have hfz34_2 := blk_frozen BK268.out 2
                have hfz34_3 := blk_frozen BK268.out 3
                have hfz34_4 := blk_frozen BK268.out 4
                have hcz35_0 : w21.cell? ⟨gb277, 0, none⟩ = some (.int .u32 0) := (blk_cell BK277.out 0).trans rfl
                have hcz35_1 : w21.cell? ⟨gb277, 1, none⟩ = some (.int .u32 0) := (blk_cell BK277.out 1).trans rfl
                have hcz35_2 : w21.cell? ⟨gb277, 2, none⟩ = some (.int .u32 0) := (blk_cell BK277.out 2).trans rfl
                have hcz35_3 : w21.cell? ⟨gb277, 3, none⟩ = some (.int .i64 0) := (blk_cell BK277.out 3).trans rfl
                have hcz35_4 : w21.cell? ⟨gb277, 4, none⟩ = some (.bool false) := (blk_cell BK277.out 4).trans rfl
                have hcz35_5 : w21.cell? ⟨gb277, 5, none⟩ = some (.bool false) := (blk_cell BK277.out 5).trans rfl
                have hcz35_6 : w21.cell? ⟨gb277, 6, none⟩ = some (.bool false) := (blk_cell BK277.out 6).trans rfl
                have hfz35_0 := blk_frozen BK277.out 0
                have hfz35_1 := blk_frozen BK277.out 1
                have hfz35_2 := blk_frozen BK277.out 2
                have hfz35_3 := blk_frozen BK277.out 3
                have hfz35_4 := blk_frozen BK277.out 4
                have hfz35_5 := blk_frozen BK277.out 5
                have hfz35_6 := blk_frozen BK277.out 6
                go_wp2_with (first | (go_at_call 25; (with_reducible refine (pintleref03_reg.calls a0_1 t273 true _ A25.out).mono ?_); rintro e w' ⟨rfl, ⟨nd, rfl⟩⟩; (try first | exact ⟨rfl, _, World.drewN_drewN _ _ _⟩ | exact ⟨rfl, _, Eq.trans (World.drewN_drewN _ _ _) (congrArg (World.drewN _) (Nat.add_assoc _ _ _))⟩)) | (go_at_call 25; (with_reducible refine (pintleref03_reg.calls a0_2 t274 false _ A27.out).mono ?_); rintro e w' ⟨rfl, ⟨nd, rfl⟩⟩; (try first | exact ⟨rfl, _, World.drewN_drewN _ _ _⟩ | exact ⟨rfl, _, Eq.trans (World.drewN_drewN _ _ _) (congrArg (World.drewN _) (Nat.add_assoc _ _ _))⟩)))
                repeat (go_quiet (first | (go_at_call 25; (with_reducible refine (pintleref03_reg.calls a0_1 t273 true _ A25.out).mono ?_); rintro e w' ⟨rfl, ⟨nd, rfl⟩⟩; (try first | exact ⟨rfl, _, World.drewN_drewN _ _ _⟩ | exact ⟨rfl, _, Eq.trans (World.drewN_drewN _ _ _) (congrArg (World.drewN _) (Nat.add_assoc _ _ _))⟩)) | (go_at_call 25; (with_reducible refine (pintleref03_reg.calls a0_2 t274 false _ A27.out).mono ?_); rintro e w' ⟨rfl, ⟨nd, rfl⟩⟩; (try first | exact ⟨rfl, _, World.drewN_drewN _ _ _⟩ | exact ⟨rfl, _, Eq.trans (World.drewN_drewN _ _ _) (congrArg (World.drewN _) (Nat.add_assoc _ _ _))⟩))); try go_wp2_with (first | (go_at_call 25; (with_reducible refine (pintleref03_reg.calls a0_1 t273 true _ A25.out).mono ?_); rintro e w' ⟨rfl, ⟨nd, rfl⟩⟩; (try first | exact ⟨rfl, _, World.drewN_drewN _ _ _⟩ | exact ⟨rfl, _, Eq.trans (World.drewN_drewN _ _ _) (congrArg (World.drewN _) (Nat.add_assoc _ _ _))⟩)) | (go_at_call 25; (with_reducible refine (pintleref03_reg.calls a0_2 t274 false _ A27.out).mono ?_); rintro e w' ⟨rfl, ⟨nd, rfl⟩⟩; (try first | exact ⟨rfl, _, World.drewN_drewN _ _ _⟩ | exact ⟨rfl, _, Eq.trans (World.drewN_drewN _ _ _) (congrArg (World.drewN _) (Nat.add_assoc _ _ _))⟩))))
                go_meet
                case rel => exact ⟨_, (true), (by first | rfl | (simp; done) | (simp [*]; done)), H', ⟨by have := HJ1.out; first | omega | exact Nat.le_refl _⟩, ⟨by (with_reducible repeat (first | refine blk_drewN ?_ _ | refine blk_drew ?_ | refine blk_alloc ?_ _)); refine blk_far ?_ NB268_277.out _; (with_reducible repeat (first | refine blk_drewN ?_ _ | refine blk_drew ?_ | refine blk_alloc ?_ _)); refine blk_far ?_ NB268_277.out _; (with_reducible repeat (first | refine blk_drewN ?_ _ | refine blk_drew ?_ | refine blk_alloc ?_ _)); refine blk_far ?_ NB268_277.out _; (with_reducible repeat (first | refine blk_drewN ?_ _ | refine blk_drew ?_ | refine blk_alloc ?_ _)); refine blk_far ?_ NB268_277.out _; (with_reducible repeat (first | refine blk_drewN ?_ _ | refine blk_drew ?_ | refine blk_alloc ?_ _)); refine blk_far ?_ NB268_277.out _; (with_reducible repeat (first | refine blk_drewN ?_ _ | refine blk_drew ?_ | refine blk_alloc ?_ _)); refine blk_far ?_ NB268_277.out _; (with_reducible repeat (first | refine blk_drewN ?_ _ | refine blk_drew ?_ | refine blk_alloc ?_ _)); refine blk_far ?_ NB268_277.out _; (with_reducible repeat (first | refine blk_drewN ?_ _ | refine blk_drew ?_ | refine blk_alloc ?_ _)); exact BK268.out⟩, ⟨by (with_reducible repeat (first | refine blk_drewN ?_ _ | refine blk_drew ?_ | refine blk_alloc ?_ _)); refine blk_put (cs := #[.int .u32 t269, .int .u32 t270, .int .u32 t271, .int .i64 t272, .bool t273, .bool t274, .bool false]) ?_ 6 _ rfl; (with_reducible repeat (first | refine blk_drewN ?_ _ | refine blk_drew ?_ | refine blk_alloc ?_ _)); refine blk_put (cs := #[.int .u32 t269, .int .u32 t270, .int .u32 t271, .int .i64 t272, .bool t273, .bool false, .bool false]) ?_ 5 _ rfl; (with_reducible repeat (first | refine blk_drewN ?_ _ | refine blk_drew ?_ | refine blk_alloc ?_ _)); refine blk_put (cs := #[.int .u32 t269, .int .u32 t270, .int .u32 t271, .int .i64 t272, .bool false, .bool false, .bool false]) ?_ 4 _ rfl; (with_reducible repeat (first | refine blk_drewN ?_ _ | refine blk_drew ?_ | refine blk_alloc ?_ _)); refine blk_put (cs := #[.int .u32 t269, .int .u32 t270, .int .u32 t271, .int .i64 0, .bool false, .bool false, .bool false]) ?_ 3 _ rfl; (with_reducible repeat (first | refine blk_drewN ?_ _ | refine blk_drew ?_ | refine blk_alloc ?_ _)); refine blk_put (cs := #[.int .u32 t269, .int .u32 t270, .int .u32 0, .int .i64 0, .bool false, .bool false, .bool false]) ?_ 2 _ rfl; (with_reducible repeat (first | refine blk_drewN ?_ _ | refine blk_drew ?_ | refine blk_alloc ?_ _)); refine blk_put (cs := #[.int .u32 t269, .int .u32 0, .int .u32 0, .int .i64 0, .bool false, .bool false, .bool false]) ?_ 1 _ rfl; (with_reducible repeat (first | refine blk_drewN ?_ _ | refine blk_drew ?_ | refine blk_alloc ?_ _)); refine blk_put (cs := #[.int .u32 0, .int .u32 0, .int .u32 0, .int .i64 0, .bool false, .bool false, .bool false]) ?_ 0 _ rfl; (with_reducible repeat (first | refine blk_drewN ?_ _ | refine blk_drew ?_ | refine blk_alloc ?_ _)); exact BK277.out⟩, ⟨by repeat (first | (with_reducible first | exact HB.out | apply below_alloc | apply pw_below_drewN | apply below_drew1 | refine below_set ?_ GE268.out | refine below_set ?_ GE277.out) | exact HB.out)⟩⟩
            · replace c26 := Bool.eq_false_iff.mpr c26
              subst c26
              have H1 : (pintleref03_Encode.j1 kj1 true a0_0 a0_1 a0_2 a0_3 a0_4 t269 t270 t271 t272 t273 t274 t275) = some (r1, r2) := by rw [if_neg (show ¬ (false = true) by decide)] at H; exact H
              clear H
              have H := H1
              clear H1
              have H' := Aside0.mk H
              clear H
              have hnb36 := NB268_277.out
              have hnc36 := NB277_268.out
              have hcz37_0 : w21.cell? ⟨gb268, 0, none⟩ = some (.int .i64 a0_0) := (blk_cell BK268.out 0).trans rfl
              have hcz37_1 : w21.cell? ⟨gb268, 1, none⟩ = some (.int .i64 a0_1) := (blk_cell BK268.out 1).trans rfl
              have hcz37_2 : w21.cell? ⟨gb268, 2, none⟩ = some (.int .i64 a0_2) := (blk_cell BK268.out 2).trans rfl
              have hcz37_3 : w21.cell? ⟨gb268, 3, none⟩ = some (.int .i64 a0_3) := (blk_cell BK268.out 3).trans rfl
              have hcz37_4 : w21.cell? ⟨gb268, 4, none⟩ = some (.int .i32 a0_4) := (blk_cell BK268.out 4).trans rfl
              have hfz37_0 := blk_frozen BK268.out 0
              have hfz37_1 := blk_frozen BK268.out 1
              have hfz37_2 := blk_frozen BK268.out 2
              have hfz37_3 := blk_frozen BK268.out 3
              have hfz37_4 := blk_frozen BK268.out 4
              have hcz38_0 : w21.cell? ⟨gb277, 0, none⟩ = some (.int .u32 0) := (blk_cell BK277.out 0).trans rfl
              have hcz38_1 : w21.cell? ⟨gb277, 1, none⟩ = some (.int .u32 0) := (blk_cell BK277.out 1).trans rfl
              have hcz38_2 : w21.cell? ⟨gb277, 2, none⟩ = some (.int .u32 0) := (blk_cell BK277.out 2).trans rfl
              have hcz38_3 : w21.cell? ⟨gb277, 3, none⟩ = some (.int .i64 0) := (blk_cell BK277.out 3).trans rfl
              have hcz38_4 : w21.cell? ⟨gb277, 4, none⟩ = some (.bool false) := (blk_cell BK277.out 4).trans rfl
              have hcz38_5 : w21.cell? ⟨gb277, 5, none⟩ = some (.bool false) := (blk_cell BK277.out 5).trans rfl
              have hcz38_6 : w21.cell? ⟨gb277, 6, none⟩ = some (.bool false) := (blk_cell BK277.out 6).trans rfl
              have hfz38_0 := blk_frozen BK277.out 0
              have hfz38_1 := blk_frozen BK277.out 1
              have hfz38_2 := blk_frozen BK277.out 2
              have hfz38_3 := blk_frozen BK277.out 3
              have hfz38_4 := blk_frozen BK277.out 4
              have hfz38_5 := blk_frozen BK277.out 5
              have hfz38_6 := blk_frozen BK277.out 6
              go_wp2_with (first | (go_at_call 25; (with_reducible refine (pintleref03_reg.calls a0_1 t273 false _ A25.out).mono ?_); rintro e w' ⟨rfl, ⟨nd, rfl⟩⟩; (try first | exact ⟨rfl, _, World.drewN_drewN _ _ _⟩ | exact ⟨rfl, _, Eq.trans (World.drewN_drewN _ _ _) (congrArg (World.drewN _) (Nat.add_assoc _ _ _))⟩)))
              repeat (go_quiet (first | (go_at_call 25; (with_reducible refine (pintleref03_reg.calls a0_1 t273 false _ A25.out).mono ?_); rintro e w' ⟨rfl, ⟨nd, rfl⟩⟩; (try first | exact ⟨rfl, _, World.drewN_drewN _ _ _⟩ | exact ⟨rfl, _, Eq.trans (World.drewN_drewN _ _ _) (congrArg (World.drewN _) (Nat.add_assoc _ _ _))⟩))); try go_wp2_with (first | (go_at_call 25; (with_reducible refine (pintleref03_reg.calls a0_1 t273 false _ A25.out).mono ?_); rintro e w' ⟨rfl, ⟨nd, rfl⟩⟩; (try first | exact ⟨rfl, _, World.drewN_drewN _ _ _⟩ | exact ⟨rfl, _, Eq.trans (World.drewN_drewN _ _ _) (congrArg (World.drewN _) (Nat.add_assoc _ _ _))⟩))))
              go_meet
              case rel => exact ⟨_, (true), (by first | rfl | (simp; done) | (simp [*]; done)), H', ⟨by have := HJ1.out; first | omega | exact Nat.le_refl _⟩, ⟨by (with_reducible repeat (first | refine blk_drewN ?_ _ | refine blk_drew ?_ | refine blk_alloc ?_ _)); refine blk_far ?_ NB268_277.out _; (with_reducible repeat (first | refine blk_drewN ?_ _ | refine blk_drew ?_ | refine blk_alloc ?_ _)); refine blk_far ?_ NB268_277.out _; (with_reducible repeat (first | refine blk_drewN ?_ _ | refine blk_drew ?_ | refine blk_alloc ?_ _)); refine blk_far ?_ NB268_277.out _; (with_reducible repeat (first | refine blk_drewN ?_ _ | refine blk_drew ?_ | refine blk_alloc ?_ _)); refine blk_far ?_ NB268_277.out _; (with_reducible repeat (first | refine blk_drewN ?_ _ | refine blk_drew ?_ | refine blk_alloc ?_ _)); refine blk_far ?_ NB268_277.out _; (with_reducible repeat (first | refine blk_drewN ?_ _ | refine blk_drew ?_ | refine blk_alloc ?_ _)); refine blk_far ?_ NB268_277.out _; (with_reducible repeat (first | refine blk_drewN ?_ _ | refine blk_drew ?_ | refine blk_alloc ?_ _)); refine blk_far ?_ NB268_277.out _; (with_reducible repeat (first | refine blk_drewN ?_ _ | refine blk_drew ?_ | refine blk_alloc ?_ _)); exact BK268.out⟩, ⟨by (with_reducible repeat (first | refine blk_drewN ?_ _ | refine blk_drew ?_ | refine blk_alloc ?_ _)); refine blk_put (cs := #[.int .u32 t269, .int .u32 t270, .int .u32 t271, .int .i64 t272, .bool t273, .bool t274, .bool false]) ?_ 6 _ rfl; (with_reducible repeat (first | refine blk_drewN ?_ _ | refine blk_drew ?_ | refine blk_alloc ?_ _)); refine blk_put (cs := #[.int .u32 t269, .int .u32 t270, .int .u32 t271, .int .i64 t272, .bool t273, .bool false, .bool false]) ?_ 5 _ rfl; (with_reducible repeat (first | refine blk_drewN ?_ _ | refine blk_drew ?_ | refine blk_alloc ?_ _)); refine blk_put (cs := #[.int .u32 t269, .int .u32 t270, .int .u32 t271, .int .i64 t272, .bool false, .bool false, .bool false]) ?_ 4 _ rfl; (with_reducible repeat (first | refine blk_drewN ?_ _ | refine blk_drew ?_ | refine blk_alloc ?_ _)); refine blk_put (cs := #[.int .u32 t269, .int .u32 t270, .int .u32 t271, .int .i64 0, .bool false, .bool false, .bool false]) ?_ 3 _ rfl; (with_reducible repeat (first | refine blk_drewN ?_ _ | refine blk_drew ?_ | refine blk_alloc ?_ _)); refine blk_put (cs := #[.int .u32 t269, .int .u32 t270, .int .u32 0, .int .i64 0, .bool false, .bool false, .bool false]) ?_ 2 _ rfl; (with_reducible repeat (first | refine blk_drewN ?_ _ | refine blk_drew ?_ | refine blk_alloc ?_ _)); refine blk_put (cs := #[.int .u32 t269, .int .u32 0, .int .u32 0, .int .i64 0, .bool false, .bool false, .bool false]) ?_ 1 _ rfl; (with_reducible repeat (first | refine blk_drewN ?_ _ | refine blk_drew ?_ | refine blk_alloc ?_ _)); refine blk_put (cs := #[.int .u32 0, .int .u32 0, .int .u32 0, .int .i64 0, .bool false, .bool false, .bool false]) ?_ 0 _ rfl; (with_reducible repeat (first | refine blk_drewN ?_ _ | refine blk_drew ?_ | refine blk_alloc ?_ _)); exact BK277.out⟩, ⟨by repeat (first | (with_reducible first | exact HB.out | apply below_alloc | apply pw_below_drewN | apply below_drew1 | refine below_set ?_ GE268.out | refine below_set ?_ GE277.out) | exact HB.out)⟩⟩
          · replace c24 := Bool.eq_false_iff.mpr c24
            subst c24
            have H1 : (pintleref03_Encode.j1 kj1 true a0_0 a0_1 a0_2 a0_3 a0_4 t269 t270 t271 t272 t273 t274 t275) = some (r1, r2) := by rw [if_neg (show ¬ (false = true) by decide)] at H; exact H
            clear H
            have H := H1
            clear H1
            have H' := Aside0.mk H
            clear H
            go_wp2
            repeat (go_quiet (fail); try go_wp2)
            go_meet
            case rel => exact ⟨_, (true), (by first | rfl | (simp; done) | (simp [*]; done)), H', ⟨by have := HJ1.out; first | omega | exact Nat.le_refl _⟩, ⟨by (with_reducible repeat (first | refine blk_drewN ?_ _ | refine blk_drew ?_ | refine blk_alloc ?_ _)); refine blk_far ?_ NB268_277.out _; (with_reducible repeat (first | refine blk_drewN ?_ _ | refine blk_drew ?_ | refine blk_alloc ?_ _)); refine blk_far ?_ NB268_277.out _; (with_reducible repeat (first | refine blk_drewN ?_ _ | refine blk_drew ?_ | refine blk_alloc ?_ _)); refine blk_far ?_ NB268_277.out _; (with_reducible repeat (first | refine blk_drewN ?_ _ | refine blk_drew ?_ | refine blk_alloc ?_ _)); refine blk_far ?_ NB268_277.out _; (with_reducible repeat (first | refine blk_drewN ?_ _ | refine blk_drew ?_ | refine blk_alloc ?_ _)); refine blk_far ?_ NB268_277.out _; (with_reducible repeat (first | refine blk_drewN ?_ _ | refine blk_drew ?_ | refine blk_alloc ?_ _)); refine blk_far ?_ NB268_277.out _; (with_reducible repeat (first | refine blk_drewN ?_ _ | refine blk_drew ?_ | refine blk_alloc ?_ _)); refine blk_far ?_ NB268_277.out _; (with_reducible repeat (first | refine blk_drewN ?_ _ | refine blk_drew ?_ | refine blk_alloc ?_ _)); exact BK268.out⟩, ⟨by (with_reducible repeat (first | refine blk_drewN ?_ _ | refine blk_drew ?_ | refine blk_alloc ?_ _)); refine blk_put (cs := #[.int .u32 t269, .int .u32 t270, .int .u32 t271, .int .i64 t272, .bool t273, .bool t274, .bool false]) ?_ 6 _ rfl; (with_reducible repeat (first | refine blk_drewN ?_ _ | refine blk_drew ?_ | refine blk_alloc ?_ _)); refine blk_put (cs := #[.int .u32 t269, .int .u32 t270, .int .u32 t271, .int .i64 t272, .bool t273, .bool false, .bool false]) ?_ 5 _ rfl; (with_reducible repeat (first | refine blk_drewN ?_ _ | refine blk_drew ?_ | refine blk_alloc ?_ _)); refine blk_put (cs := #[.int .u32 t269, .int .u32 t270, .int .u32 t271, .int .i64 t272, .bool false, .bool false, .bool false]) ?_ 4 _ rfl; (with_reducible repeat (first | refine blk_drewN ?_ _ | refine blk_drew ?_ | refine blk_alloc ?_ _)); refine blk_put (cs := #[.int .u32 t269, .int .u32 t270, .int .u32 t271, .int .i64 0, .bool false, .bool false, .bool false]) ?_ 3 _ rfl; (with_reducible repeat (first | refine blk_drewN ?_ _ | refine blk_drew ?_ | refine blk_alloc ?_ _)); refine blk_put (cs := #[.int .u32 t269, .int .u32 t270, .int .u32 0, .int .i64 0, .bool false, .bool false, .bool false]) ?_ 2 _ rfl; (with_reducible repeat (first | refine blk_drewN ?_ _ | refine blk_drew ?_ | refine blk_alloc ?_ _)); refine blk_put (cs := #[.int .u32 t269, .int .u32 0, .int .u32 0, .int .i64 0, .bool false, .bool false, .bool false]) ?_ 1 _ rfl; (with_reducible repeat (first | refine blk_drewN ?_ _ | refine blk_drew ?_ | refine blk_alloc ?_ _)); refine blk_put (cs := #[.int .u32 0, .int .u32 0, .int .u32 0, .int .i64 0, .bool false, .bool false, .bool false]) ?_ 0 _ rfl; (with_reducible repeat (first | refine blk_drewN ?_ _ | refine blk_drew ?_ | refine blk_alloc ?_ _)); exact BK277.out⟩, ⟨by repeat (first | (with_reducible first | exact HB.out | apply below_alloc | apply pw_below_drewN | apply below_drew1 | refine below_set ?_ GE268.out | refine below_set ?_ GE277.out) | exact HB.out)⟩⟩
        case rest =>
          clear HC18
          try clear c1
          try clear c2
          try clear p2
          try clear c3
          try clear c4
          try clear c4b0
          try clear c4b1
          try clear p6
          try clear c7
          try clear c8
          try clear c8b0
          try clear c8b1
          try clear c9
          try clear c9b0
          try clear c9b1
          try clear c10
          try clear c10b0
          try clear c10b1
          try clear c11
          try clear c11b0
          try clear c11b1
          try clear c13
          try clear c22
          try clear c24
          try clear c26
          try clear c28
          try clear c30
          try clear c33
          try clear c36
          try clear hcz12_0
          try clear hcz12_1
          try clear hcz12_2
          try clear hcz12_3
          try clear hcz12_4
          try clear hcz13_0
          try clear hcz13_1
          try clear hcz13_2
          try clear hcz13_3
          try clear hcz13_4
          try clear hcz14_0
          try clear hcz14_1
          try clear hcz14_2
          try clear hcz14_3
          try clear hcz14_4
          try clear hcz15_0
          try clear hcz15_1
          try clear hcz15_2
          try clear hcz15_3
          try clear hcz15_4
          try clear hcz16_0
          try clear hcz16_1
          try clear hcz16_2
          try clear hcz16_3
          try clear hcz16_4
          try clear hcz19_0
          try clear hcz19_1
          try clear hcz19_2
          try clear hcz19_3
          try clear hcz19_4
          try clear hcz23_0
          try clear hcz23_1
          try clear hcz23_2
          try clear hcz23_3
          try clear hcz23_4
          try clear hcz23_5
          try clear hcz23_6
          try clear hcz31_0
          try clear hcz31_1
          try clear hcz31_2
          try clear hcz31_3
          try clear hcz31_4
          try clear hcz32_0
          try clear hcz32_1
          try clear hcz32_2
          try clear hcz32_3
          try clear hcz32_4
          try clear hcz32_5
          try clear hcz32_6
          try clear hcz34_0
          try clear hcz34_1
          try clear hcz34_2
          try clear hcz34_3
          try clear hcz34_4
          try clear hcz35_0
          try clear hcz35_1
          try clear hcz35_2
          try clear hcz35_3
          try clear hcz35_4
          try clear hcz35_5
          try clear hcz35_6
          try clear hcz37_0
          try clear hcz37_1
          try clear hcz37_2
          try clear hcz37_3
          try clear hcz37_4
          try clear hcz38_0
          try clear hcz38_1
          try clear hcz38_2
          try clear hcz38_3
          try clear hcz38_4
          try clear hcz38_5
          try clear hcz38_6
          try clear hcz5_0
          try clear hcz5_1
          try clear hcz5_2
          try clear hcz5_3
          try clear hcz5_4
          try clear hcz6_0
          try clear hcz6_1
          try clear hcz6_2
          try clear hcz6_3
          try clear hcz6_4
          try clear hfz12_0
          try clear hfz12_1
          try clear hfz12_2
          try clear hfz12_3
          try clear hfz12_4
          try clear hfz13_0
          try clear hfz13_1
          try clear hfz13_2
          try clear hfz13_3
          try clear hfz13_4
          try clear hfz14_0
          try clear hfz14_1
          try clear hfz14_2
          try clear hfz14_3
          try clear hfz14_4
          try clear hfz15_0
          try clear hfz15_1
          try clear hfz15_2
          try clear hfz15_3
          try clear hfz15_4
          try clear hfz16_0
          try clear hfz16_1
          try clear hfz16_2
          try clear hfz16_3
          try clear hfz16_4
          try clear hfz19_0
          try clear hfz19_1
          try clear hfz19_2
          try clear hfz19_3
          try clear hfz19_4
          try clear hfz23_0
          try clear hfz23_1
          try clear hfz23_2
          try clear hfz23_3
          try clear hfz23_4
          try clear hfz23_5
          try clear hfz23_6
          try clear hfz31_0
          try clear hfz31_1
          try clear hfz31_2
          try clear hfz31_3
          try clear hfz31_4
          try clear hfz32_0
          try clear hfz32_1
          try clear hfz32_2
          try clear hfz32_3
          try clear hfz32_4
          try clear hfz32_5
          try clear hfz32_6
          try clear hfz34_0
          try clear hfz34_1
          try clear hfz34_2
          try clear hfz34_3
          try clear hfz34_4
          try clear hfz35_0
          try clear hfz35_1
          try clear hfz35_2
          try clear hfz35_3
          try clear hfz35_4
          try clear hfz35_5
          try clear hfz35_6
          try clear hfz37_0
          try clear hfz37_1
          try clear hfz37_2
          try clear hfz37_3
          try clear hfz37_4
          try clear hfz38_0
          try clear hfz38_1
          try clear hfz38_2
          try clear hfz38_3
          try clear hfz38_4
          try clear hfz38_5
          try clear hfz38_6
          try clear hfz5_0
          try clear hfz5_1
          try clear hfz5_2
          try clear hfz5_3
          try clear hfz5_4
          try clear hfz6_0
          try clear hfz6_1
          try clear hfz6_2
          try clear hfz6_3
          try clear hfz6_4
          try clear p2
          obtain ⟨kq, x72_17, rfl, HA, HJ17, BK268, BK277, HB⟩ := hcut
          cases kq with
          | zero => exact absurd HA.out (by simp [pintleref03_Encode.j1])
          | succ kj17 =>
            have H := HA.out
            clear HA
            simp only [pintleref03_Encode.j1] at H
            by_cases c39 : x72_17 = true
            · subst c39
              have H1 : (some (0, false)) = some (r1, r2) := by rw [if_pos rfl] at H; exact H
              clear H
              have H := H1
              clear H1
              simp only [Option.some.injEq, Prod.mk.injEq] at H
              obtain ⟨rfl, rfl⟩ := H
              go_wp2
              repeat (go_quiet (fail); try go_wp2)
              go_ret2
              exact ⟨by first | rfl | (simp [errW_none, errW_some] <;> rfl) | (simp [*, errW_none, errW_some] <;> rfl), by repeat (first | (with_reducible first | exact HB.out | apply below_alloc | apply pw_below_drewN | apply below_drew1 | refine below_set ?_ GE268.out | refine below_set ?_ GE277.out) | exact HB.out)⟩
            · replace c39 := Bool.eq_false_iff.mpr c39
              subst c39
              have H1 : ((pintleref02_Put.f kj17 t272 a0_4).bind fun bt281 => (if t272 = 0 then (pintleref03_Encode.j2 kj17 ((((((((((t269 + ((t270 * 4096) % 4294967296)) % 4294967296) + ((t271 * 33554432) % 4294967296)) % 4294967296) + ((((a0_1) % 4294967296) * 128) % 4294967296)) % 4294967296) + ((((a0_2) % 4294967296) * 32768) % 4294967296)) % 4294967296) + ((((a0_3) % 4294967296) * 1048576) % 4294967296)) % 4294967296) 0 (a0_4 == 0) a0_0 a0_1 a0_2 a0_3 a0_4 t269 t270 t271 t272 t273 t274 t275) else (pintleref03_Encode.j2 kj17 ((((((((((t269 + ((t270 * 4096) % 4294967296)) % 4294967296) + ((t271 * 33554432) % 4294967296)) % 4294967296) + ((((a0_1) % 4294967296) * 128) % 4294967296)) % 4294967296) + ((((a0_2) % 4294967296) * 32768) % 4294967296)) % 4294967296) + ((((a0_3) % 4294967296) * 1048576) % 4294967296)) % 4294967296) bt281.1 bt281.2 a0_0 a0_1 a0_2 a0_3 a0_4 t269 t270 t271 t272 t273 t274 t275))) = some (r1, r2) := by rw [if_neg (show ¬ (false = true) by decide)] at H; exact H
              clear H
              have H := H1
              clear H1
              replace H := Option.bind_eq_some_iff.mp H
              obtain ⟨⟨t281, t282⟩, A400, H⟩ := H
              replace H : (if t272 = 0 then (pintleref03_Encode.j2 kj17 ((((((((((t269 + ((t270 * 4096) % 4294967296)) % 4294967296) + ((t271 * 33554432) % 4294967296)) % 4294967296) + ((((a0_1) % 4294967296) * 128) % 4294967296)) % 4294967296) + ((((a0_2) % 4294967296) * 32768) % 4294967296)) % 4294967296) + ((((a0_3) % 4294967296) * 1048576) % 4294967296)) % 4294967296) 0 (a0_4 == 0) a0_0 a0_1 a0_2 a0_3 a0_4 t269 t270 t271 t272 t273 t274 t275) else (pintleref03_Encode.j2 kj17 ((((((((((t269 + ((t270 * 4096) % 4294967296)) % 4294967296) + ((t271 * 33554432) % 4294967296)) % 4294967296) + ((((a0_1) % 4294967296) * 128) % 4294967296)) % 4294967296) + ((((a0_2) % 4294967296) * 32768) % 4294967296)) % 4294967296) + ((((a0_3) % 4294967296) * 1048576) % 4294967296)) % 4294967296) t281 t282 a0_0 a0_1 a0_2 a0_3 a0_4 t269 t270 t271 t272 t273 t274 t275)) = some (r1, r2) := H
              have A40 := Aside0.mk A400
              clear A400
              have HC41 := Aside0.mk H
              clear H
              have hnb42 := NB277_268.out
              have hnc42 := NB268_277.out
              have hcz43_0 : wc.cell? ⟨gb277, 0, none⟩ = some (.int .u32 t269) := (blk_cell BK277.out 0).trans rfl
              have hcz43_1 : wc.cell? ⟨gb277, 1, none⟩ = some (.int .u32 t270) := (blk_cell BK277.out 1).trans rfl
              have hcz43_2 : wc.cell? ⟨gb277, 2, none⟩ = some (.int .u32 t271) := (blk_cell BK277.out 2).trans rfl
              have hcz43_3 : wc.cell? ⟨gb277, 3, none⟩ = some (.int .i64 t272) := (blk_cell BK277.out 3).trans rfl
              have hcz43_4 : wc.cell? ⟨gb277, 4, none⟩ = some (.bool t273) := (blk_cell BK277.out 4).trans rfl
              have hcz43_5 : wc.cell? ⟨gb277, 5, none⟩ = some (.bool t274) := (blk_cell BK277.out 5).trans rfl
              have hcz43_6 : wc.cell? ⟨gb277, 6, none⟩ = some (.bool t275) := (blk_cell BK277.out 6).trans rfl
              have hfz43_0 := blk_frozen BK277.out 0
              have hfz43_1 := blk_frozen BK277.out 1
              have hfz43_2 := blk_frozen BK277.out 2
              have hfz43_3 := blk_frozen BK277.out 3
              have hfz43_4 := blk_frozen BK277.out 4
              have hfz43_5 := blk_frozen BK277.out 5
              have hfz43_6 := blk_frozen BK277.out 6
              have hcz44_0 : wc.cell? ⟨gb268, 0, none⟩ = some (.int .i64 a0_0) := (blk_cell BK268.out 0).trans rfl
              have hcz44_1 : wc.cell? ⟨gb268, 1, none⟩ = some (.int .i64 a0_1) := (blk_cell BK268.out 1).trans rfl
              have hcz44_2 : wc.cell? ⟨gb268, 2, none⟩ = some (.int .i64 a0_2) := (blk_cell BK268.out 2).trans rfl
              have hcz44_3 : wc.cell? ⟨gb268, 3, none⟩ = some (.int .i64 a0_3) := (blk_cell BK268.out 3).trans rfl
              have hcz44_4 : wc.cell? ⟨gb268, 4, none⟩ = some (.int .i32 a0_4) := (blk_cell BK268.out 4).trans rfl
              have hfz44_0 := blk_frozen BK268.out 0
              have hfz44_1 := blk_frozen BK268.out 1
              have hfz44_2 := blk_frozen BK268.out 2
              have hfz44_3 := blk_frozen BK268.out 3
              have hfz44_4 := blk_frozen BK268.out 4
              go_upto_if 108 with (first | (go_at_call 26; (with_reducible refine (pintleref02_Put.calls kj17 t272 a0_4 t281 t282 _ A40.out).mono ?_); rintro e w45 ⟨rfl, hb⟩; have n0_ := Aside0.mk (blk_below (g := gb268) (o := .cells #[.int .i64 a0_0, .int .i64 a0_1, .int .i64 a0_2, .int .i64 a0_3, .int .i32 a0_4] 24 (0, 0)) (by (with_reducible repeat (first | refine blk_drewN ?_ _ | refine blk_drew ?_ | refine blk_alloc ?_ _)); exact BK268.out) hb); have n1_ := Aside0.mk (blk_below (g := gb277) (o := .cells #[.int .u32 t269, .int .u32 t270, .int .u32 t271, .int .i64 t272, .bool t273, .bool t274, .bool t275] 34 (0, 0)) (by (with_reducible repeat (first | refine blk_drewN ?_ _ | refine blk_drew ?_ | refine blk_alloc ?_ _)); exact BK277.out) hb); have n2_ := Aside0.mk (below_step (by repeat (first | (with_reducible first | exact HB.out | apply below_alloc | apply pw_below_drewN | apply below_drew1 | refine below_set ?_ GE268.out | refine below_set ?_ GE277.out) | exact HB.out)) hb); clear BK268; clear BK277; clear HB; have BK268 := n0_; have BK277 := n1_; have HB := n2_; clear n0_ n1_ n2_; (try clear hb); (try clear hb2); (try clear hk); (try clear hi); have hcz46_0 : w45.cell? ⟨gb277, 0, none⟩ = some (.int .u32 t269) := (blk_cell BK277.out 0).trans rfl; have hcz46_1 : w45.cell? ⟨gb277, 1, none⟩ = some (.int .u32 t270) := (blk_cell BK277.out 1).trans rfl; have hcz46_2 : w45.cell? ⟨gb277, 2, none⟩ = some (.int .u32 t271) := (blk_cell BK277.out 2).trans rfl; have hcz46_3 : w45.cell? ⟨gb277, 3, none⟩ = some (.int .i64 t272) := (blk_cell BK277.out 3).trans rfl; have hcz46_4 : w45.cell? ⟨gb277, 4, none⟩ = some (.bool t273) := (blk_cell BK277.out 4).trans rfl; have hcz46_5 : w45.cell? ⟨gb277, 5, none⟩ = some (.bool t274) := (blk_cell BK277.out 5).trans rfl; have hcz46_6 : w45.cell? ⟨gb277, 6, none⟩ = some (.bool t275) := (blk_cell BK277.out 6).trans rfl; have hfz46_0 := blk_frozen BK277.out 0; have hfz46_1 := blk_frozen BK277.out 1; have hfz46_2 := blk_frozen BK277.out 2; have hfz46_3 := blk_frozen BK277.out 3; have hfz46_4 := blk_frozen BK277.out 4; have hfz46_5 := blk_frozen BK277.out 5; have hfz46_6 := blk_frozen BK277.out 6))
              repeat (go_quiet (first | (go_at_call 26; (with_reducible refine (pintleref02_Put.calls kj17 t272 a0_4 t281 t282 _ A40.out).mono ?_); rintro e w45 ⟨rfl, hb⟩; have n0_ := Aside0.mk (blk_below (g := gb268) (o := .cells #[.int .i64 a0_0, .int .i64 a0_1, .int .i64 a0_2, .int .i64 a0_3, .int .i32 a0_4] 24 (0, 0)) (by (with_reducible repeat (first | refine blk_drewN ?_ _ | refine blk_drew ?_ | refine blk_alloc ?_ _)); exact BK268.out) hb); have n1_ := Aside0.mk (blk_below (g := gb277) (o := .cells #[.int .u32 t269, .int .u32 t270, .int .u32 t271, .int .i64 t272, .bool t273, .bool t274, .bool t275] 34 (0, 0)) (by (with_reducible repeat (first | refine blk_drewN ?_ _ | refine blk_drew ?_ | refine blk_alloc ?_ _)); exact BK277.out) hb); have n2_ := Aside0.mk (below_step (by repeat (first | (with_reducible first | exact HB.out | apply below_alloc | apply pw_below_drewN | apply below_drew1 | refine below_set ?_ GE268.out | refine below_set ?_ GE277.out) | exact HB.out)) hb); clear BK268; clear BK277; clear HB; have BK268 := n0_; have BK277 := n1_; have HB := n2_; clear n0_ n1_ n2_; (try clear hb); (try clear hb2); (try clear hk); (try clear hi); have hcz46_0 : w45.cell? ⟨gb277, 0, none⟩ = some (.int .u32 t269) := (blk_cell BK277.out 0).trans rfl; have hcz46_1 : w45.cell? ⟨gb277, 1, none⟩ = some (.int .u32 t270) := (blk_cell BK277.out 1).trans rfl; have hcz46_2 : w45.cell? ⟨gb277, 2, none⟩ = some (.int .u32 t271) := (blk_cell BK277.out 2).trans rfl; have hcz46_3 : w45.cell? ⟨gb277, 3, none⟩ = some (.int .i64 t272) := (blk_cell BK277.out 3).trans rfl; have hcz46_4 : w45.cell? ⟨gb277, 4, none⟩ = some (.bool t273) := (blk_cell BK277.out 4).trans rfl; have hcz46_5 : w45.cell? ⟨gb277, 5, none⟩ = some (.bool t274) := (blk_cell BK277.out 5).trans rfl; have hcz46_6 : w45.cell? ⟨gb277, 6, none⟩ = some (.bool t275) := (blk_cell BK277.out 6).trans rfl; have hfz46_0 := blk_frozen BK277.out 0; have hfz46_1 := blk_frozen BK277.out 1; have hfz46_2 := blk_frozen BK277.out 2; have hfz46_3 := blk_frozen BK277.out 3; have hfz46_4 := blk_frozen BK277.out 4; have hfz46_5 := blk_frozen BK277.out 5; have hfz46_6 := blk_frozen BK277.out 6)); go_upto_if 108 with (first | (go_at_call 26; (with_reducible refine (pintleref02_Put.calls kj17 t272 a0_4 t281 t282 _ A40.out).mono ?_); rintro e w45 ⟨rfl, hb⟩; have n0_ := Aside0.mk (blk_below (g := gb268) (o := .cells #[.int .i64 a0_0, .int .i64 a0_1, .int .i64 a0_2, .int .i64 a0_3, .int .i32 a0_4] 24 (0, 0)) (by (with_reducible repeat (first | refine blk_drewN ?_ _ | refine blk_drew ?_ | refine blk_alloc ?_ _)); exact BK268.out) hb); have n1_ := Aside0.mk (blk_below (g := gb277) (o := .cells #[.int .u32 t269, .int .u32 t270, .int .u32 t271, .int .i64 t272, .bool t273, .bool t274, .bool t275] 34 (0, 0)) (by (with_reducible repeat (first | refine blk_drewN ?_ _ | refine blk_drew ?_ | refine blk_alloc ?_ _)); exact BK277.out) hb); have n2_ := Aside0.mk (below_step (by repeat (first | (with_reducible first | exact HB.out | apply below_alloc | apply pw_below_drewN | apply below_drew1 | refine below_set ?_ GE268.out | refine below_set ?_ GE277.out) | exact HB.out)) hb); clear BK268; clear BK277; clear HB; have BK268 := n0_; have BK277 := n1_; have HB := n2_; clear n0_ n1_ n2_; (try clear hb); (try clear hb2); (try clear hk); (try clear hi); have hcz46_0 : w45.cell? ⟨gb277, 0, none⟩ = some (.int .u32 t269) := (blk_cell BK277.out 0).trans rfl; have hcz46_1 : w45.cell? ⟨gb277, 1, none⟩ = some (.int .u32 t270) := (blk_cell BK277.out 1).trans rfl; have hcz46_2 : w45.cell? ⟨gb277, 2, none⟩ = some (.int .u32 t271) := (blk_cell BK277.out 2).trans rfl; have hcz46_3 : w45.cell? ⟨gb277, 3, none⟩ = some (.int .i64 t272) := (blk_cell BK277.out 3).trans rfl; have hcz46_4 : w45.cell? ⟨gb277, 4, none⟩ = some (.bool t273) := (blk_cell BK277.out 4).trans rfl; have hcz46_5 : w45.cell? ⟨gb277, 5, none⟩ = some (.bool t274) := (blk_cell BK277.out 5).trans rfl; have hcz46_6 : w45.cell? ⟨gb277, 6, none⟩ = some (.bool t275) := (blk_cell BK277.out 6).trans rfl; have hfz46_0 := blk_frozen BK277.out 0; have hfz46_1 := blk_frozen BK277.out 1; have hfz46_2 := blk_frozen BK277.out 2; have hfz46_3 := blk_frozen BK277.out 3; have hfz46_4 := blk_frozen BK277.out 4; have hfz46_5 := blk_frozen BK277.out 5; have hfz46_6 := blk_frozen BK277.out 6)))
              (try simp only [Act.put, List.setIfInBounds_toArray, List.set_cons_zero, List.set_cons_succ])
              go_cut [7, 8] (fun v7 v8 wc => ∃ (kq : Nat) (x7_40 : Int) (x8_40 : Bool), v7 = .int .u32 x7_40 ∧ v8 = .bool x8_40 ∧ Aside0 (pintleref03_Encode.j2 kq ((((((((((t269 + ((t270 * 4096) % 4294967296)) % 4294967296) + ((t271 * 33554432) % 4294967296)) % 4294967296) + ((((a0_1) % 4294967296) * 128) % 4294967296)) % 4294967296) + ((((a0_2) % 4294967296) * 32768) % 4294967296)) % 4294967296) + ((((a0_3) % 4294967296) * 1048576) % 4294967296)) % 4294967296) x7_40 x8_40 a0_0 a0_1 a0_2 a0_3 a0_4 t269 t270 t271 t272 t273 t274 t275 = some (r1, r2)) ∧ Aside0 (kq ≤ kj17) ∧ Aside0 (wc.heap[gb268]? = some (.cells #[.int .i64 a0_0, .int .i64 a0_1, .int .i64 a0_2, .int .i64 a0_3, .int .i32 a0_4] 24 (0, 0))) ∧ Aside0 (wc.heap[gb277]? = some (.cells #[.int .u32 t269, .int .u32 t270, .int .u32 t271, .int .i64 t272, .bool t273, .bool t274, .bool t275] 34 (0, 0))) ∧ Aside0 (Below w.heap.size w wc))
              case first =>
                have H := HC41.out
                clear HC41
                by_cases c47 : t272 = 0
                · rw [if_pos c47] at H
                  have c47b0 : (t272 == 0) = true := beq_iff_eq.mpr c47
                  have c47b1 : (t272 != 0) = false := bne_eq_false_iff_eq.mpr c47
                  clear c47
                  (first | rw [c47b0] | (simp only [i64_w, i32_w]; rw [c47b0]) | skip)
                  have H' := Aside0.mk H
                  clear H
                  have hnb48 := NB268_277.out
                  have hnc48 := NB277_268.out
                  have hcz49_0 : w45.cell? ⟨gb268, 0, none⟩ = some (.int .i64 a0_0) := (blk_cell BK268.out 0).trans rfl
                  have hcz49_1 : w45.cell? ⟨gb268, 1, none⟩ = some (.int .i64 a0_1) := (blk_cell BK268.out 1).trans rfl
                  have hcz49_2 : w45.cell? ⟨gb268, 2, none⟩ = some (.int .i64 a0_2) := (blk_cell BK268.out 2).trans rfl
                  have hcz49_3 : w45.cell? ⟨gb268, 3, none⟩ = some (.int .i64 a0_3) := (blk_cell BK268.out 3).trans rfl
                  have hcz49_4 : w45.cell? ⟨gb268, 4, none⟩ = some (.int .i32 a0_4) := (blk_cell BK268.out 4).trans rfl
                  have hfz49_0 := blk_frozen BK268.out 0
                  have hfz49_1 := blk_frozen BK268.out 1
                  have hfz49_2 := blk_frozen BK268.out 2
                  have hfz49_3 := blk_frozen BK268.out 3
                  have hfz49_4 := blk_frozen BK268.out 4
                  go_wp2
                  repeat (go_quiet (fail); try go_wp2)
                  go_meet
                  case rel => exact ⟨_, (0), ((a0_4 == 0)), (by first | rfl | (simp; done) | (simp [*]; done)), (by first | rfl | (simp; done) | (simp [*]; done)), H', ⟨by have := HJ1.out; have := HJ17.out; first | omega | exact Nat.le_refl _⟩, ⟨by (with_reducible repeat (first | refine blk_drewN ?_ _ | refine blk_drew ?_ | refine blk_alloc ?_ _)); exact BK268.out⟩, ⟨by (with_reducible repeat (first | refine blk_drewN ?_ _ | refine blk_drew ?_ | refine blk_alloc ?_ _)); exact BK277.out⟩, ⟨by repeat (first | (with_reducible first | exact HB.out | apply below_alloc | apply pw_below_drewN | apply below_drew1 | refine below_set ?_ GE268.out | refine below_set ?_ GE277.out) | exact HB.out)⟩⟩
                · rw [if_neg c47] at H
                  have c47b0 : (t272 == 0) = false := beq_eq_false_iff_ne.mpr c47
                  have c47b1 : (t272 != 0) = true := bne_iff_ne.mpr c47
                  (first | rw [c47b0] | (simp only [i64_w, i32_w]; rw [c47b0]) | skip)
                  have H' := Aside0.mk H
                  clear H
                  go_wp2
                  repeat (go_quiet (fail); try go_wp2)
                  go_meet
                  case rel => exact ⟨_, (t281), (t282), (by first | rfl | (simp; done) | (simp [*]; done)), (by first | rfl | (simp; done) | (simp [*]; done)), H', ⟨by have := HJ1.out; have := HJ17.out; first | omega | exact Nat.le_refl _⟩, ⟨by (with_reducible repeat (first | refine blk_drewN ?_ _ | refine blk_drew ?_ | refine blk_alloc ?_ _)); exact BK268.out⟩, ⟨by (with_reducible repeat (first | refine blk_drewN ?_ _ | refine blk_drew ?_ | refine blk_alloc ?_ _)); exact BK277.out⟩, ⟨by repeat (first | (with_reducible first | exact HB.out | apply below_alloc | apply pw_below_drewN | apply below_drew1 | refine below_set ?_ GE268.out | refine below_set ?_ GE277.out) | exact HB.out)⟩⟩
              case rest =>
                clear HC41
                try clear c1
                try clear c2
                try clear p2
                try clear c3
                try clear c4
                try clear c4b0
                try clear c4b1
                try clear p6
                try clear c7
                try clear c8
                try clear c8b0
                try clear c8b1
                try clear c9
                try clear c9b0
                try clear c9b1
                try clear c10
                try clear c10b0
                try clear c10b1
                try clear c11
                try clear c11b0
                try clear c11b1
                try clear c13
                try clear c22
                try clear c24
                try clear c26
                try clear c28
                try clear c30
                try clear c33
                try clear c36
                try clear c39
                try clear c42
                try clear c47
                try clear c47b0
                try clear c47b1
                try clear c48
                try clear hcz12_0
                try clear hcz12_1
                try clear hcz12_2
                try clear hcz12_3
                try clear hcz12_4
                try clear hcz13_0
                try clear hcz13_1
                try clear hcz13_2
                try clear hcz13_3
                try clear hcz13_4
                try clear hcz14_0
                try clear hcz14_1
                try clear hcz14_2
                try clear hcz14_3
                try clear hcz14_4
                try clear hcz15_0
                try clear hcz15_1
                try clear hcz15_2
                try clear hcz15_3
                try clear hcz15_4
                try clear hcz16_0
                try clear hcz16_1
                try clear hcz16_2
                try clear hcz16_3
                try clear hcz16_4
                try clear hcz19_0
                try clear hcz19_1
                try clear hcz19_2
                try clear hcz19_3
                try clear hcz19_4
                try clear hcz23_0
                try clear hcz23_1
                try clear hcz23_2
                try clear hcz23_3
                try clear hcz23_4
                try clear hcz23_5
                try clear hcz23_6
                try clear hcz31_0
                try clear hcz31_1
                try clear hcz31_2
                try clear hcz31_3
                try clear hcz31_4
                try clear hcz32_0
                try clear hcz32_1
                try clear hcz32_2
                try clear hcz32_3
                try clear hcz32_4
                try clear hcz32_5
                try clear hcz32_6
                try clear hcz34_0
                try clear hcz34_1
                try clear hcz34_2
                try clear hcz34_3
                try clear hcz34_4
                try clear hcz35_0
                try clear hcz35_1
                try clear hcz35_2
                try clear hcz35_3
                try clear hcz35_4
                try clear hcz35_5
                try clear hcz35_6
                try clear hcz37_0
                try clear hcz37_1
                try clear hcz37_2
                try clear hcz37_3
                try clear hcz37_4
                try clear hcz38_0
                try clear hcz38_1
                try clear hcz38_2
                try clear hcz38_3
                try clear hcz38_4
                try clear hcz38_5
                try clear hcz38_6
                try clear hcz43_0
                try clear hcz43_1
                try clear hcz43_2
                try clear hcz43_3
                try clear hcz43_4
                try clear hcz43_5
                try clear hcz43_6
                try clear hcz44_0
                try clear hcz44_1
                try clear hcz44_2
                try clear hcz44_3
                try clear hcz44_4
                try clear hcz46_0
                try clear hcz46_1
                try clear hcz46_2
                try clear hcz46_3
                try clear hcz46_4
                try clear hcz46_5
                try clear hcz46_6
                try clear hcz49_0
                try clear hcz49_1
                try clear hcz49_2
                try clear hcz49_3
                try clear hcz49_4
                try clear hcz5_0
                try clear hcz5_1
                try clear hcz5_2
                try clear hcz5_3
                try clear hcz5_4
                try clear hcz6_0
                try clear hcz6_1
                try clear hcz6_2
                try clear hcz6_3
                try clear hcz6_4
                try clear hfz12_0
                try clear hfz12_1
                try clear hfz12_2
                try clear hfz12_3
                try clear hfz12_4
                try clear hfz13_0
                try clear hfz13_1
                try clear hfz13_2
                try clear hfz13_3
                try clear hfz13_4
                try clear hfz14_0
                try clear hfz14_1
                try clear hfz14_2
                try clear hfz14_3
                try clear hfz14_4
                try clear hfz15_0
                try clear hfz15_1
                try clear hfz15_2
                try clear hfz15_3
                try clear hfz15_4
                try clear hfz16_0
                try clear hfz16_1
                try clear hfz16_2
                try clear hfz16_3
                try clear hfz16_4
                try clear hfz19_0
                try clear hfz19_1
                try clear hfz19_2
                try clear hfz19_3
                try clear hfz19_4
                try clear hfz23_0
                try clear hfz23_1
                try clear hfz23_2
                try clear hfz23_3
                try clear hfz23_4
                try clear hfz23_5
                try clear hfz23_6
                try clear hfz31_0
                try clear hfz31_1
                try clear hfz31_2
                try clear hfz31_3
                try clear hfz31_4
                try clear hfz32_0
                try clear hfz32_1
                try clear hfz32_2
                try clear hfz32_3
                try clear hfz32_4
                try clear hfz32_5
                try clear hfz32_6
                try clear hfz34_0
                try clear hfz34_1
                try clear hfz34_2
                try clear hfz34_3
                try clear hfz34_4
                try clear hfz35_0
                try clear hfz35_1
                try clear hfz35_2
                try clear hfz35_3
                try clear hfz35_4
                try clear hfz35_5
                try clear hfz35_6
                try clear hfz37_0
                try clear hfz37_1
                try clear hfz37_2
                try clear hfz37_3
                try clear hfz37_4
                try clear hfz38_0
                try clear hfz38_1
                try clear hfz38_2
                try clear hfz38_3
                try clear hfz38_4
                try clear hfz38_5
                try clear hfz38_6
                try clear hfz43_0
                try clear hfz43_1
                try clear hfz43_2
                try clear hfz43_3
                try clear hfz43_4
                try clear hfz43_5
                try clear hfz43_6
                try clear hfz44_0
                try clear hfz44_1
                try clear hfz44_2
                try clear hfz44_3
                try clear hfz44_4
                try clear hfz46_0
                try clear hfz46_1
                try clear hfz46_2
                try clear hfz46_3
                try clear hfz46_4
                try clear hfz46_5
                try clear hfz46_6
                try clear hfz49_0
                try clear hfz49_1
                try clear hfz49_2
                try clear hfz49_3
                try clear hfz49_4
                try clear hfz5_0
                try clear hfz5_1
                try clear hfz5_2
                try clear hfz5_3
                try clear hfz5_4
                try clear hfz6_0
                try clear hfz6_1
                try clear hfz6_2
                try clear hfz6_3
                try clear hfz6_4
                try clear p2
                try clear p6
                obtain ⟨kq, x7_40, x8_40, rfl, rfl, HA, HJ40, BK268, BK277, HB⟩ := hcut
                cases kq with
                | zero => exact absurd HA.out (by simp [pintleref03_Encode.j2])
                | succ kj40 =>
                  have H := HA.out
                  clear HA
                  simp only [pintleref03_Encode.j2] at H
                  by_cases c50 : t272 = 6
                  · rw [if_pos c50] at H
                    have c50b0 : (t272 == 6) = true := beq_iff_eq.mpr c50
                    have c50b1 : (t272 != 6) = false := bne_eq_false_iff_eq.mpr c50
                    clear c50
                    by_cases c51 : a0_4 ≥ 0
                    · rw [if_pos c51] at H
                      have c51b0 : decide (0 ≤ a0_4) = true := decide_eq_true c51
                      clear c51
                      by_cases c52 : a0_4 < 32
                      · rw [if_pos c52] at H
                        have c52b0 : decide (a0_4 < 32) = true := decide_eq_true c52
                        clear c52
                        simp only [Option.some.injEq, Prod.mk.injEq] at H
                        obtain ⟨rfl, rfl⟩ := H
                        have hnb53 := NB277_268.out
                        have hnc53 := NB268_277.out
                        have hcz54_0 : wc.cell? ⟨gb277, 0, none⟩ = some (.int .u32 t269) := (blk_cell BK277.out 0).trans rfl
                        have hcz54_1 : wc.cell? ⟨gb277, 1, none⟩ = some (.int .u32 t270) := (blk_cell BK277.out 1).trans rfl
                        have hcz54_2 : wc.cell? ⟨gb277, 2, none⟩ = some (.int .u32 t271) := (blk_cell BK277.out 2).trans rfl
                        have hcz54_3 : wc.cell? ⟨gb277, 3, none⟩ = some (.int .i64 t272) := (blk_cell BK277.out 3).trans rfl
                        have hcz54_4 : wc.cell? ⟨gb277, 4, none⟩ = some (.bool t273) := (blk_cell BK277.out 4).trans rfl
                        have hcz54_5 : wc.cell? ⟨gb277, 5, none⟩ = some (.bool t274) := (blk_cell BK277.out 5).trans rfl
                        have hcz54_6 : wc.cell? ⟨gb277, 6, none⟩ = some (.bool t275) := (blk_cell BK277.out 6).trans rfl
                        have hfz54_0 := blk_frozen BK277.out 0
                        have hfz54_1 := blk_frozen BK277.out 1
                        have hfz54_2 := blk_frozen BK277.out 2
                        have hfz54_3 := blk_frozen BK277.out 3
                        have hfz54_4 := blk_frozen BK277.out 4
                        have hfz54_5 := blk_frozen BK277.out 5
                        have hfz54_6 := blk_frozen BK277.out 6
                        have hcz55_0 : wc.cell? ⟨gb268, 0, none⟩ = some (.int .i64 a0_0) := (blk_cell BK268.out 0).trans rfl
                        have hcz55_1 : wc.cell? ⟨gb268, 1, none⟩ = some (.int .i64 a0_1) := (blk_cell BK268.out 1).trans rfl
                        have hcz55_2 : wc.cell? ⟨gb268, 2, none⟩ = some (.int .i64 a0_2) := (blk_cell BK268.out 2).trans rfl
                        have hcz55_3 : wc.cell? ⟨gb268, 3, none⟩ = some (.int .i64 a0_3) := (blk_cell BK268.out 3).trans rfl
                        have hcz55_4 : wc.cell? ⟨gb268, 4, none⟩ = some (.int .i32 a0_4) := (blk_cell BK268.out 4).trans rfl
                        have hfz55_0 := blk_frozen BK268.out 0
                        have hfz55_1 := blk_frozen BK268.out 1
                        have hfz55_2 := blk_frozen BK268.out 2
                        have hfz55_3 := blk_frozen BK268.out 3
                        have hfz55_4 := blk_frozen BK268.out 4
                        go_wp2
                        repeat (go_quiet (fail); try go_wp2)
                        go_ret2
                        exact ⟨by first | rfl | (simp [errW_none, errW_some] <;> rfl) | (simp [*, errW_none, errW_some] <;> rfl), by repeat (first | (with_reducible first | exact HB.out | apply below_alloc | apply pw_below_drewN | apply below_drew1 | refine below_set ?_ GE268.out | refine below_set ?_ GE277.out) | exact HB.out)⟩
                      · rw [if_neg c52] at H
                        have c52b0 : decide (a0_4 < 32) = false := decide_eq_false c52
                        clear c52
                        simp only [Option.some.injEq, Prod.mk.injEq] at H
                        obtain ⟨rfl, rfl⟩ := H
                        have hnb56 := NB277_268.out
                        have hnc56 := NB268_277.out
                        have hcz57_0 : wc.cell? ⟨gb277, 0, none⟩ = some (.int .u32 t269) := (blk_cell BK277.out 0).trans rfl
                        have hcz57_1 : wc.cell? ⟨gb277, 1, none⟩ = some (.int .u32 t270) := (blk_cell BK277.out 1).trans rfl
                        have hcz57_2 : wc.cell? ⟨gb277, 2, none⟩ = some (.int .u32 t271) := (blk_cell BK277.out 2).trans rfl
                        have hcz57_3 : wc.cell? ⟨gb277, 3, none⟩ = some (.int .i64 t272) := (blk_cell BK277.out 3).trans rfl
                        have hcz57_4 : wc.cell? ⟨gb277, 4, none⟩ = some (.bool t273) := (blk_cell BK277.out 4).trans rfl
                        have hcz57_5 : wc.cell? ⟨gb277, 5, none⟩ = some (.bool t274) := (blk_cell BK277.out 5).trans rfl
                        have hcz57_6 : wc.cell? ⟨gb277, 6, none⟩ = some (.bool t275) := (blk_cell BK277.out 6).trans rfl
                        have hfz57_0 := blk_frozen BK277.out 0
                        have hfz57_1 := blk_frozen BK277.out 1
                        have hfz57_2 := blk_frozen BK277.out 2
                        have hfz57_3 := blk_frozen BK277.out 3
                        have hfz57_4 := blk_frozen BK277.out 4
                        have hfz57_5 := blk_frozen BK277.out 5
                        have hfz57_6 := blk_frozen BK277.out 6
                        have hcz58_0 : wc.cell? ⟨gb268, 0, none⟩ = some (.int .i64 a0_0) := (blk_cell BK268.out 0).trans rfl
                        have hcz58_1 : wc.cell? ⟨gb268, 1, none⟩ = some (.int .i64 a0_1) := (blk_cell BK268.out 1).trans rfl
                        have hcz58_2 : wc.cell? ⟨gb268, 2, none⟩ = some (.int .i64 a0_2) := (blk_cell BK268.out 2).trans rfl
                        have hcz58_3 : wc.cell? ⟨gb268, 3, none⟩ = some (.int .i64 a0_3) := (blk_cell BK268.out 3).trans rfl
                        have hcz58_4 : wc.cell? ⟨gb268, 4, none⟩ = some (.int .i32 a0_4) := (blk_cell BK268.out 4).trans rfl
                        have hfz58_0 := blk_frozen BK268.out 0
                        have hfz58_1 := blk_frozen BK268.out 1
                        have hfz58_2 := blk_frozen BK268.out 2
                        have hfz58_3 := blk_frozen BK268.out 3
                        have hfz58_4 := blk_frozen BK268.out 4
                        go_wp2
                        repeat (go_quiet (fail); try go_wp2)
                        go_ret2
                        exact ⟨by first | rfl | (simp [errW_none, errW_some] <;> rfl) | (simp [*, errW_none, errW_some] <;> rfl), by repeat (first | (with_reducible first | exact HB.out | apply below_alloc | apply pw_below_drewN | apply below_drew1 | refine below_set ?_ GE268.out | refine below_set ?_ GE277.out) | exact HB.out)⟩
                    · rw [if_neg c51] at H
                      have c51b0 : decide (0 ≤ a0_4) = false := decide_eq_false c51
                      clear c51
                      simp only [Option.some.injEq, Prod.mk.injEq] at H
                      obtain ⟨rfl, rfl⟩ := H
                      have hnb59 := NB277_268.out
                      have hnc59 := NB268_277.out
                      have hcz60_0 : wc.cell? ⟨gb277, 0, none⟩ = some (.int .u32 t269) := (blk_cell BK277.out 0).trans rfl
                      have hcz60_1 : wc.cell? ⟨gb277, 1, none⟩ = some (.int .u32 t270) := (blk_cell BK277.out 1).trans rfl
                      have hcz60_2 : wc.cell? ⟨gb277, 2, none⟩ = some (.int .u32 t271) := (blk_cell BK277.out 2).trans rfl
                      have hcz60_3 : wc.cell? ⟨gb277, 3, none⟩ = some (.int .i64 t272) := (blk_cell BK277.out 3).trans rfl
                      have hcz60_4 : wc.cell? ⟨gb277, 4, none⟩ = some (.bool t273) := (blk_cell BK277.out 4).trans rfl
                      have hcz60_5 : wc.cell? ⟨gb277, 5, none⟩ = some (.bool t274) := (blk_cell BK277.out 5).trans rfl
                      have hcz60_6 : wc.cell? ⟨gb277, 6, none⟩ = some (.bool t275) := (blk_cell BK277.out 6).trans rfl
                      have hfz60_0 := blk_frozen BK277.out 0
                      have hfz60_1 := blk_frozen BK277.out 1
                      have hfz60_2 := blk_frozen BK277.out 2
                      have hfz60_3 := blk_frozen BK277.out 3
                      have hfz60_4 := blk_frozen BK277.out 4
                      have hfz60_5 := blk_frozen BK277.out 5
                      have hfz60_6 := blk_frozen BK277.out 6
                      have hcz61_0 : wc.cell? ⟨gb268, 0, none⟩ = some (.int .i64 a0_0) := (blk_cell BK268.out 0).trans rfl
                      have hcz61_1 : wc.cell? ⟨gb268, 1, none⟩ = some (.int .i64 a0_1) := (blk_cell BK268.out 1).trans rfl
                      have hcz61_2 : wc.cell? ⟨gb268, 2, none⟩ = some (.int .i64 a0_2) := (blk_cell BK268.out 2).trans rfl
                      have hcz61_3 : wc.cell? ⟨gb268, 3, none⟩ = some (.int .i64 a0_3) := (blk_cell BK268.out 3).trans rfl
                      have hcz61_4 : wc.cell? ⟨gb268, 4, none⟩ = some (.int .i32 a0_4) := (blk_cell BK268.out 4).trans rfl
                      have hfz61_0 := blk_frozen BK268.out 0
                      have hfz61_1 := blk_frozen BK268.out 1
                      have hfz61_2 := blk_frozen BK268.out 2
                      have hfz61_3 := blk_frozen BK268.out 3
                      have hfz61_4 := blk_frozen BK268.out 4
                      go_wp2
                      repeat (go_quiet (fail); try go_wp2)
                      go_ret2
                      exact ⟨by first | rfl | (simp [errW_none, errW_some] <;> rfl) | (simp [*, errW_none, errW_some] <;> rfl), by repeat (first | (with_reducible first | exact HB.out | apply below_alloc | apply pw_below_drewN | apply below_drew1 | refine below_set ?_ GE268.out | refine below_set ?_ GE277.out) | exact HB.out)⟩
                  · rw [if_neg c50] at H
                    have c50b0 : (t272 == 6) = false := beq_eq_false_iff_ne.mpr c50
                    have c50b1 : (t272 != 6) = true := bne_iff_ne.mpr c50
                    by_cases c62 : x8_40 = true
                    · subst c62
                      have H1 : (some ((((((((((((t269 + ((t270 * 4096) % 4294967296)) % 4294967296) + ((t271 * 33554432) % 4294967296)) % 4294967296) + ((((a0_1) % 4294967296) * 128) % 4294967296)) % 4294967296) + ((((a0_2) % 4294967296) * 32768) % 4294967296)) % 4294967296) + ((((a0_3) % 4294967296) * 1048576) % 4294967296)) % 4294967296) + x7_40) % 4294967296, true)) = some (r1, r2) := by rw [if_pos rfl] at H; exact H
                      clear H
                      have H := H1
                      clear H1
                      simp only [Option.some.injEq, Prod.mk.injEq] at H
                      obtain ⟨rfl, rfl⟩ := H
                      have hnb63 := NB277_268.out
                      have hnc63 := NB268_277.out
                      have hcz64_0 : wc.cell? ⟨gb277, 0, none⟩ = some (.int .u32 t269) := (blk_cell BK277.out 0).trans rfl
                      have hcz64_1 : wc.cell? ⟨gb277, 1, none⟩ = some (.int .u32 t270) := (blk_cell BK277.out 1).trans rfl
                      have hcz64_2 : wc.cell? ⟨gb277, 2, none⟩ = some (.int .u32 t271) := (blk_cell BK277.out 2).trans rfl
                      have hcz64_3 : wc.cell? ⟨gb277, 3, none⟩ = some (.int .i64 t272) := (blk_cell BK277.out 3).trans rfl
                      have hcz64_4 : wc.cell? ⟨gb277, 4, none⟩ = some (.bool t273) := (blk_cell BK277.out 4).trans rfl
                      have hcz64_5 : wc.cell? ⟨gb277, 5, none⟩ = some (.bool t274) := (blk_cell BK277.out 5).trans rfl
                      have hcz64_6 : wc.cell? ⟨gb277, 6, none⟩ = some (.bool t275) := (blk_cell BK277.out 6).trans rfl
                      have hfz64_0 := blk_frozen BK277.out 0
                      have hfz64_1 := blk_frozen BK277.out 1
                      have hfz64_2 := blk_frozen BK277.out 2
                      have hfz64_3 := blk_frozen BK277.out 3
                      have hfz64_4 := blk_frozen BK277.out 4
                      have hfz64_5 := blk_frozen BK277.out 5
                      have hfz64_6 := blk_frozen BK277.out 6
                      go_wp2
                      repeat (go_quiet (fail); try go_wp2)
                      go_ret2
                      exact ⟨by first | rfl | (simp [errW_none, errW_some] <;> rfl) | (simp [*, errW_none, errW_some] <;> rfl), by repeat (first | (with_reducible first | exact HB.out | apply below_alloc | apply pw_below_drewN | apply below_drew1 | refine below_set ?_ GE268.out | refine below_set ?_ GE277.out) | exact HB.out)⟩
                    · replace c62 := Bool.eq_false_iff.mpr c62
                      subst c62
                      have H1 : (some (0, false)) = some (r1, r2) := by rw [if_neg (show ¬ (false = true) by decide)] at H; exact H
                      clear H
                      have H := H1
                      clear H1
                      simp only [Option.some.injEq, Prod.mk.injEq] at H
                      obtain ⟨rfl, rfl⟩ := H
                      have hnb65 := NB277_268.out
                      have hnc65 := NB268_277.out
                      have hcz66_0 : wc.cell? ⟨gb277, 0, none⟩ = some (.int .u32 t269) := (blk_cell BK277.out 0).trans rfl
                      have hcz66_1 : wc.cell? ⟨gb277, 1, none⟩ = some (.int .u32 t270) := (blk_cell BK277.out 1).trans rfl
                      have hcz66_2 : wc.cell? ⟨gb277, 2, none⟩ = some (.int .u32 t271) := (blk_cell BK277.out 2).trans rfl
                      have hcz66_3 : wc.cell? ⟨gb277, 3, none⟩ = some (.int .i64 t272) := (blk_cell BK277.out 3).trans rfl
                      have hcz66_4 : wc.cell? ⟨gb277, 4, none⟩ = some (.bool t273) := (blk_cell BK277.out 4).trans rfl
                      have hcz66_5 : wc.cell? ⟨gb277, 5, none⟩ = some (.bool t274) := (blk_cell BK277.out 5).trans rfl
                      have hcz66_6 : wc.cell? ⟨gb277, 6, none⟩ = some (.bool t275) := (blk_cell BK277.out 6).trans rfl
                      have hfz66_0 := blk_frozen BK277.out 0
                      have hfz66_1 := blk_frozen BK277.out 1
                      have hfz66_2 := blk_frozen BK277.out 2
                      have hfz66_3 := blk_frozen BK277.out 3
                      have hfz66_4 := blk_frozen BK277.out 4
                      have hfz66_5 := blk_frozen BK277.out 5
                      have hfz66_6 := blk_frozen BK277.out 6
                      go_wp2
                      repeat (go_quiet (fail); try go_wp2)
                      go_ret2
                      exact ⟨by first | rfl | (simp [errW_none, errW_some] <;> rfl) | (simp [*, errW_none, errW_some] <;> rfl), by repeat (first | (with_reducible first | exact HB.out | apply below_alloc | apply pw_below_drewN | apply below_drew1 | refine below_set ?_ GE268.out | refine below_set ?_ GE277.out) | exact HB.out)⟩
end Go.Proofs.Ytmjiimajbaeicaa.PInst
