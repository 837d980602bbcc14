/- inst_Reads: a plain function with the same answers as the program's, and the proof of it, as a program has written them. -/
import Derived.Test.YtmjiimajbaeicaaInBase
import Derived.Test.YtmjiimajbaeicaaInInstOf
import Derived.Test.YtmjiimajbaeicaaInInstWord
namespace Go.Proofs.Ytmjiimajbaeicaa.PInst
open Go.RowKit Go.Proofs.YtmjiimajbaeicaaW.PrintWords Go.Proofs.YtmjiimajbaeicaaW.PrintLast Go.Proofs.YtmjiimajbaeicaaW.PrintMore
attribute [local go_sem] max2_int min2_int max_two min_two max_three min_three max_four min_four   -- for this text's walks alone
set_option linter.unusedVariables false
set_option linter.unusedSimpArgs false


/-! ### inst_Reads: function 17 -/
def inst_Reads.j0 : Nat → Bool → Int → Int → Int → Int → Int → Int → Int → Int → Int → Bool → Bool → Bool → Bool → Option (List Int)
  | 0, _, _, _, _, _, _, _, _, _, _, _, _, _, _ => none
  | k + 1, x24, x371000, x371001, x371002, x371003, x371004, x381000, x381001, x381002, x381003, x381004, x381005, x381006, x381007 => if x24 = true then (some ([] : List Int)) else (if x381005 = true then (if ([] : List Int).length < 17592186044416 then ((some (([] : List Int) ++ [x371002] : List Int)).bind fun y383 => (if x381006 = true then (if y383.length < 17592186044416 then (some (y383 ++ [x371003])) else (none)) else (some y383))) else (none)) else (if x381006 = true then (if ([] : List Int).length < 17592186044416 then (some (([] : List Int) ++ [x371003])) else (none)) else (some ([] : List Int))))
def inst_Reads.f (k : Nat) (a0_0 : Int) (a0_1 : Int) (a0_2 : Int) (a0_3 : Int) (a0_4 : Int) : Option (List Int) := (inst_of.f k a0_0).bind fun bt371 => ((inst_word.f k a0_0 a0_1 a0_2 a0_3 a0_4).bind fun bt381 => (if bt371.2.2.2.2.2.2.2.2 = true then (inst_Reads.j0 k (!bt381.2) a0_0 a0_1 a0_2 a0_3 a0_4 bt371.1 bt371.2.1 bt371.2.2.1 bt371.2.2.2.1 bt371.2.2.2.2.1 bt371.2.2.2.2.2.1 bt371.2.2.2.2.2.2.1 bt371.2.2.2.2.2.2.2.1) else (inst_Reads.j0 k true a0_0 a0_1 a0_2 a0_3 a0_4 bt371.1 bt371.2.1 bt371.2.2.1 bt371.2.2.2.1 bt371.2.2.2.2.1 bt371.2.2.2.2.2.1 bt371.2.2.2.2.2.2.1 bt371.2.2.2.2.2.2.2.1)))
theorem inst_Reads.mono_l : ∀ k, (∀ y0 y1 y2 y3 y4 y5 y6 y7 y8 y9 y10 y11 y12 y13, LeO (inst_Reads.j0 k y0 y1 y2 y3 y4 y5 y6 y7 y8 y9 y10 y11 y12 y13) (inst_Reads.j0 (k + 1) y0 y1 y2 y3 y4 y5 y6 y7 y8 y9 y10 y11 y12 y13))
  | 0 => fun _ _ _ _ _ _ _ _ _ _ _ _ _ _ r h => by simp [inst_Reads.j0] at h
  | k + 1 => by
    have ih0 := inst_Reads.mono_l k
    · intro y0 y1 y2 y3 y4 y5 y6 y7 y8 y9 y10 y11 y12 y13
      unfold inst_Reads.j0
      repeat' first
      | (with_reducible exact ih0 _ _ _ _ _ _ _ _ _ _ _ _ _ _)
      | (with_reducible exact inst_of.mono _ _)
      | (with_reducible exact inst_word.mono _ _ _ _ _ _)
      | (with_reducible exact LeO.refl _)
      | (with_reducible exact LeO.none _)
      | (with_reducible refine LeO.ite ?_ ?_)
      | (with_reducible refine LeO.bind ?_ (fun _ => ?_))
      | exact ih0 _ _ _ _ _ _ _ _ _ _ _ _ _ _
      | exact inst_of.mono _ _
      | exact inst_word.mono _ _ _ _ _ _
      | exact LeO.none _
      | refine LeO.ite ?_ ?_
      | refine LeO.bind ?_ (fun _ => ?_)
theorem inst_Reads.mono : ∀ a0 a1 a2 a3 a4 k, LeO (inst_Reads.f k a0 a1 a2 a3 a4) (inst_Reads.f (k + 1) a0 a1 a2 a3 a4) := by
  intro a0 a1 a2 a3 a4 k
  have ih0 := inst_Reads.mono_l k
  unfold inst_Reads.f
  repeat' first
      | (with_reducible exact ih0 _ _ _ _ _ _ _ _ _ _ _ _ _ _)
      | (with_reducible exact inst_of.mono _ _)
      | (with_reducible exact inst_word.mono _ _ _ _ _ _)
      | (with_reducible exact LeO.refl _)
      | (with_reducible exact LeO.none _)
      | (with_reducible refine LeO.ite ?_ ?_)
      | (with_reducible refine LeO.bind ?_ (fun _ => ?_))
      | exact ih0 _ _ _ _ _ _ _ _ _ _ _ _ _ _
      | exact inst_of.mono _ _
      | exact inst_word.mono _ _ _ _ _ _
      | exact LeO.none _
      | refine LeO.ite ?_ ?_
      | refine LeO.bind ?_ (fun _ => ?_)
set_option maxHeartbeats 8000000 in
set_option maxRecDepth 100000 in
theorem inst_Reads.calls (k : Nat) (a0_0 : Int) (a0_1 : Int) (a0_2 : Int) (a0_3 : Int) (a0_4 : Int) (r : List Int) (w : World) (h : inst_Reads.f k a0_0 a0_1 a0_2 a0_3 a0_4 = some r) :
    Calls Try.prog 17 #[.agg #[.int .i64 a0_0, .int .i64 a0_1, .int .i64 a0_2, .int .i64 a0_3, .int .i32 a0_4]] w fun e w' => ∃ v0_ : Value, e = .returned (v0_) ∧ Kd.R (Kd.int .i64) 3 w' w.heap.size (fun _ => True) v0_ r ∧ Below w.heap.size w w' := by
  have hu24 := Try.underlying24
  have hu51 := Try.underlying51
  have HB := Aside0.mk (Below.refl w.heap.size w)
  have H : ((inst_of.f k a0_0).bind fun bt371 => ((inst_word.f k a0_0 a0_1 a0_2 a0_3 a0_4).bind fun bt381 => (if bt371.2.2.2.2.2.2.2.2 = true then (inst_Reads.j0 k (!bt381.2) a0_0 a0_1 a0_2 a0_3 a0_4 bt371.1 bt371.2.1 bt371.2.2.1 bt371.2.2.2.1 bt371.2.2.2.2.1 bt371.2.2.2.2.2.1 bt371.2.2.2.2.2.2.1 bt371.2.2.2.2.2.2.2.1) else (inst_Reads.j0 k true a0_0 a0_1 a0_2 a0_3 a0_4 bt371.1 bt371.2.1 bt371.2.2.1 bt371.2.2.2.1 bt371.2.2.2.2.1 bt371.2.2.2.2.2.1 bt371.2.2.2.2.2.2.1 bt371.2.2.2.2.2.2.2.1)))) = some r := h
  clear h
  replace H := Option.bind_eq_some_iff.mp H
  obtain ⟨⟨t371, t372, t373, t374, t375, t376, t377, t378, t379⟩, A20, H⟩ := H
  replace H : ((inst_word.f k a0_0 a0_1 a0_2 a0_3 a0_4).bind fun bt381 => (if t379 = true then (inst_Reads.j0 k (!bt381.2) a0_0 a0_1 a0_2 a0_3 a0_4 t371 t372 t373 t374 t375 t376 t377 t378) else (inst_Reads.j0 k true a0_0 a0_1 a0_2 a0_3 a0_4 t371 t372 t373 t374 t375 t376 t377 t378))) = some r := H
  have A2 := Aside0.mk A20
  clear A20
  replace H := Option.bind_eq_some_iff.mp H
  obtain ⟨⟨t381, t382⟩, A30, H⟩ := H
  replace H : (if t379 = true then (inst_Reads.j0 k (!t382) a0_0 a0_1 a0_2 a0_3 a0_4 t371 t372 t373 t374 t375 t376 t377 t378) else (inst_Reads.j0 k true a0_0 a0_1 a0_2 a0_3 a0_4 t371 t372 t373 t374 t375 t376 t377 t378)) = some r := H
  have A3 := Aside0.mk A30
  clear A30
  have HC4 := Aside0.mk H
  clear H
  go_enter Try.func17, Try.ntmps17
  go_upto_region 3 with (first | ((with_reducible refine gate_dst (N := 1) rfl ?_); refine box_event ?hg (N := 1) ?hd (cs := #[.int .i64 a0_0, .int .i64 a0_1, .int .i64 a0_2, .int .i64 a0_3, .int .i32 a0_4]) (t := 24) ?hr ?_; (case hd => rfl); (case hg => rfl); (case hr => first | (go_simp; done) | (go_simp; rfl)); intro gb370 hg w5 hbox hb; have n0_ := Aside0.mk (below_step (by repeat (first | (with_reducible first | exact HB.out | apply below_alloc | apply pw_below_drewN | apply below_drew1) | exact HB.out)) hb); have n1_ := Aside0.mk (hbox); have n2_ := Aside0.mk ((by rw [hg]; exact (below_size (by repeat (first | (with_reducible first | exact HB.out | apply below_alloc | apply pw_below_drewN | apply below_drew1) | exact HB.out))) : w.heap.size ≤ gb370)); have n3_ := Aside0.mk ((by rw [hg]; exact (below_size (by repeat (first | (with_reducible first | exact HB.out | apply below_alloc | apply pw_below_drewN | apply below_drew1) | exact HB.out))) : w.heap.size ≤ gb370)); clear HB; have HB := n0_; have BK370 := n1_; have GW370 := n2_; have GE370 := n3_; clear n0_ n1_ n2_ n3_; clear hb hbox hg; have hcz6_0 : w5.cell? ⟨gb370, 0, none⟩ = some (.int .i64 a0_0) := (blk_cell BK370.out 0).trans rfl; have hcz6_1 : w5.cell? ⟨gb370, 1, none⟩ = some (.int .i64 a0_1) := (blk_cell BK370.out 1).trans rfl; have hcz6_2 : w5.cell? ⟨gb370, 2, none⟩ = some (.int .i64 a0_2) := (blk_cell BK370.out 2).trans rfl; have hcz6_3 : w5.cell? ⟨gb370, 3, none⟩ = some (.int .i64 a0_3) := (blk_cell BK370.out 3).trans rfl; have hcz6_4 : w5.cell? ⟨gb370, 4, none⟩ = some (.int .i32 a0_4) := (blk_cell BK370.out 4).trans rfl; have hfz6_0 := blk_frozen BK370.out 0; have hfz6_1 := blk_frozen BK370.out 1; have hfz6_2 := blk_frozen BK370.out 2; have hfz6_3 := blk_frozen BK370.out 3; have hfz6_4 := blk_frozen BK370.out 4) | ((with_reducible refine gate_callee (f := 27) rfl ?_); refine goesL_ (some 11) rfl rfl Try.func27 (by kernel_rfl) rfl #[.int .i64 a0_0] rfl (by (try simp only [List.map_toArray, List.map_cons, List.map_nil]); first | done | rfl | (simp only [List.length_drop, List.length_take]; rfl)) ?_; (with_reducible refine (inst_of.calls k a0_0 t371 t372 t373 t374 t375 t376 t377 t378 t379 _ A2.out).mono ?_); rintro e w7 ⟨rfl, hb⟩; refine ⟨_, rfl, ?_⟩; have n0_ := Aside0.mk (blk_below (g := gb370) (o := .cells #[.int .i64 a0_0, .int .i64 a0_1, .int .i64 a0_2, .int .i64 a0_3, .int .i32 a0_4] 24 (0, 0)) (by (with_reducible repeat (first | refine blk_drewN ?_ _ | refine blk_drew ?_ | refine blk_alloc ?_ _)); exact BK370.out) hb); have n1_ := Aside0.mk (below_step (by repeat (first | (with_reducible first | exact HB.out | apply below_alloc | apply pw_below_drewN | apply below_drew1 | refine below_set ?_ GE370.out) | exact HB.out)) hb); clear BK370; clear HB; have BK370 := n0_; have HB := n1_; clear n0_ n1_; (try clear hb); (try clear hb2); (try clear hk); (try clear hi)) | ((with_reducible refine gate_dst (N := 3) rfl ?_); refine box_event ?hg (N := 3) ?hd (cs := #[.int .u32 0, .int .u32 0, .int .u32 0, .int .i64 0, .bool false, .bool false, .bool false, .bool false]) (t := 51) ?hr ?_; (case hd => rfl); (case hg => rfl); (case hr => first | (go_simp; done) | (go_simp; rfl)); intro gb380 hg w8 hbox hb; have n0_ := Aside0.mk (blk_below (g := gb370) (o := .cells #[.int .i64 a0_0, .int .i64 a0_1, .int .i64 a0_2, .int .i64 a0_3, .int .i32 a0_4] 24 (0, 0)) (by (with_reducible repeat (first | refine blk_drewN ?_ _ | refine blk_drew ?_ | refine blk_alloc ?_ _)); exact BK370.out) hb); have n1_ := Aside0.mk (below_step (by repeat (first | (with_reducible first | exact HB.out | apply below_alloc | apply pw_below_drewN | apply below_drew1 | refine below_set ?_ GE370.out) | exact HB.out)) hb); have n2_ := Aside0.mk (hbox); have n3_ := Aside0.mk ((by rw [hg]; exact (below_size (by repeat (first | (with_reducible first | exact HB.out | apply below_alloc | apply pw_below_drewN | apply below_drew1 | refine below_set ?_ GE370.out) | exact HB.out))) : w.heap.size ≤ gb380)); have n4_ := Aside0.mk ((by rw [hg]; exact (below_size (by repeat (first | (with_reducible first | exact HB.out | apply below_alloc | apply pw_below_drewN | apply below_drew1 | refine below_set ?_ GE370.out) | exact HB.out))) : w.heap.size ≤ gb380)); have n5_ := Aside0.mk ((by rw [hg]; exact Nat.ne_of_lt (blk_lt (g := gb370) (o := .cells #[.int .i64 a0_0, .int .i64 a0_1, .int .i64 a0_2, .int .i64 a0_3, .int .i32 a0_4] 24 (0, 0)) (by (with_reducible repeat (first | refine blk_drewN ?_ _ | refine blk_drew ?_ | refine blk_alloc ?_ _)); exact BK370.out)) : gb370 ≠ gb380)); have n6_ := Aside0.mk ((by rw [hg]; exact Nat.ne_of_gt (blk_lt (g := gb370) (o := .cells #[.int .i64 a0_0, .int .i64 a0_1, .int .i64 a0_2, .int .i64 a0_3, .int .i32 a0_4] 24 (0, 0)) (by (with_reducible repeat (first | refine blk_drewN ?_ _ | refine blk_drew ?_ | refine blk_alloc ?_ _)); exact BK370.out)) : gb380 ≠ gb370)); clear BK370; clear HB; have BK370 := n0_; have HB := n1_; have BK380 := n2_; have GW380 := n3_; have GE380 := n4_; have NB370_380 := n5_; have NB380_370 := n6_; clear n0_ n1_ n2_ n3_ n4_ n5_ n6_; clear hb hbox hg; have hnb9 := NB380_370.out; have hnc9 := NB370_380.out; have hcz10_0 : w8.cell? ⟨gb380, 0, none⟩ = some (.int .u32 0) := (blk_cell BK380.out 0).trans rfl; have hcz10_1 : w8.cell? ⟨gb380, 1, none⟩ = some (.int .u32 0) := (blk_cell BK380.out 1).trans rfl; have hcz10_2 : w8.cell? ⟨gb380, 2, none⟩ = some (.int .u32 0) := (blk_cell BK380.out 2).trans rfl; have hcz10_3 : w8.cell? ⟨gb380, 3, none⟩ = some (.int .i64 0) := (blk_cell BK380.out 3).trans rfl; have hcz10_4 : w8.cell? ⟨gb380, 4, none⟩ = some (.bool false) := (blk_cell BK380.out 4).trans rfl; have hcz10_5 : w8.cell? ⟨gb380, 5, none⟩ = some (.bool false) := (blk_cell BK380.out 5).trans rfl; have hcz10_6 : w8.cell? ⟨gb380, 6, none⟩ = some (.bool false) := (blk_cell BK380.out 6).trans rfl; have hcz10_7 : w8.cell? ⟨gb380, 7, none⟩ = some (.bool false) := (blk_cell BK380.out 7).trans rfl; have hfz10_0 := blk_frozen BK380.out 0; have hfz10_1 := blk_frozen BK380.out 1; have hfz10_2 := blk_frozen BK380.out 2; have hfz10_3 := blk_frozen BK380.out 3; have hfz10_4 := blk_frozen BK380.out 4; have hfz10_5 := blk_frozen BK380.out 5; have hfz10_6 := blk_frozen BK380.out 6; have hfz10_7 := blk_frozen BK380.out 7; have hcz11_0 : w8.cell? ⟨gb370, 0, none⟩ = some (.int .i64 a0_0) := (blk_cell BK370.out 0).trans rfl; have hcz11_1 : w8.cell? ⟨gb370, 1, none⟩ = some (.int .i64 a0_1) := (blk_cell BK370.out 1).trans rfl; have hcz11_2 : w8.cell? ⟨gb370, 2, none⟩ = some (.int .i64 a0_2) := (blk_cell BK370.out 2).trans rfl; have hcz11_3 : w8.cell? ⟨gb370, 3, none⟩ = some (.int .i64 a0_3) := (blk_cell BK370.out 3).trans rfl; have hcz11_4 : w8.cell? ⟨gb370, 4, none⟩ = some (.int .i32 a0_4) := (blk_cell BK370.out 4).trans rfl; have hfz11_0 := blk_frozen BK370.out 0; have hfz11_1 := blk_frozen BK370.out 1; have hfz11_2 := blk_frozen BK370.out 2; have hfz11_3 := blk_frozen BK370.out 3; have hfz11_4 := blk_frozen BK370.out 4) | ((with_reducible refine gate_callee (f := 23) rfl ?_); refine goesL_ (some 16) rfl rfl Try.func23 (by kernel_rfl) rfl #[.agg #[.int .i64 a0_0, .int .i64 a0_1, .int .i64 a0_2, .int .i64 a0_3, .int .i32 a0_4]] rfl (by (try simp only [List.map_toArray, List.map_cons, List.map_nil]); first | done | rfl | (simp only [List.length_drop, List.length_take]; rfl)) ?_; (with_reducible refine (inst_word.calls k a0_0 a0_1 a0_2 a0_3 a0_4 t381 t382 _ A3.out).mono ?_); rintro e w12 ⟨rfl, hb⟩; refine ⟨_, rfl, ?_⟩; have n0_ := Aside0.mk (blk_below (g := gb370) (o := .cells #[.int .i64 a0_0, .int .i64 a0_1, .int .i64 a0_2, .int .i64 a0_3, .int .i32 a0_4] 24 (0, 0)) (by (with_reducible repeat (first | refine blk_drewN ?_ _ | refine blk_drew ?_ | refine blk_alloc ?_ _)); refine blk_far ?_ NB370_380.out _; (with_reducible repeat (first | refine blk_drewN ?_ _ | refine blk_drew ?_ | refine blk_alloc ?_ _)); refine blk_far ?_ NB370_380.out _; (with_reducible repeat (first | refine blk_drewN ?_ _ | refine blk_drew ?_ | refine blk_alloc ?_ _)); refine blk_far ?_ NB370_380.out _; (with_reducible repeat (first | refine blk_drewN ?_ _ | refine blk_drew ?_ | refine blk_alloc ?_ _)); refine blk_far ?_ NB370_380.out _; (with_reducible repeat (first | refine blk_drewN ?_ _ | refine blk_drew ?_ | refine blk_alloc ?_ _)); refine blk_far ?_ NB370_380.out _; (with_reducible repeat (first | refine blk_drewN ?_ _ | refine blk_drew ?_ | refine blk_alloc ?_ _)); refine blk_far ?_ NB370_380.out _; (with_reducible repeat (first | refine blk_drewN ?_ _ | refine blk_drew ?_ | refine blk_alloc ?_ _)); refine blk_far ?_ NB370_380.out _; (with_reducible repeat (first | refine blk_drewN ?_ _ | refine blk_drew ?_ | refine blk_alloc ?_ _)); refine blk_far ?_ NB370_380.out _; (with_reducible repeat (first | refine blk_drewN ?_ _ | refine blk_drew ?_ | refine blk_alloc ?_ _)); exact BK370.out) hb); have n1_ := Aside0.mk (blk_below (g := gb380) (o := .cells #[.int .u32 t371, .int .u32 t372, .int .u32 t373, .int .i64 t374, .bool t375, .bool t376, .bool t377, .bool t378] 51 (0, 0)) (by (with_reducible repeat (first | refine blk_drewN ?_ _ | refine blk_drew ?_ | refine blk_alloc ?_ _)); refine blk_put (cs := #[.int .u32 t371, .int .u32 t372, .int .u32 t373, .int .i64 t374, .bool t375, .bool t376, .bool t377, .bool false]) ?_ 7 _ rfl; (with_reducible repeat (first | refine blk_drewN ?_ _ | refine blk_drew ?_ | refine blk_alloc ?_ _)); refine blk_put (cs := #[.int .u32 t371, .int .u32 t372, .int .u32 t373, .int .i64 t374, .bool t375, .bool t376, .bool false, .bool false]) ?_ 6 _ rfl; (with_reducible repeat (first | refine blk_drewN ?_ _ | refine blk_drew ?_ | refine blk_alloc ?_ _)); refine blk_put (cs := #[.int .u32 t371, .int .u32 t372, .int .u32 t373, .int .i64 t374, .bool t375, .bool false, .bool false, .bool false]) ?_ 5 _ rfl; (with_reducible repeat (first | refine blk_drewN ?_ _ | refine blk_drew ?_ | refine blk_alloc ?_ _)); refine blk_put (cs := #[.int .u32 t371, .int .u32 t372, .int .u32 t373, .int .i64 t374, .bool false, .bool false, .bool false, .bool false]) ?_ 4 _ rfl; (with_reducible repeat (first | refine blk_drewN ?_ _ | refine blk_drew ?_ | refine blk_alloc ?_ _)); refine blk_put (cs := #[.int .u32 t371, .int .u32 t372, .int .u32 t373, .int .i64 0, .bool false, .bool false, .bool false, .bool false]) ?_ 3 _ rfl; (with_reducible repeat (first | refine blk_drewN ?_ _ | refine blk_drew ?_ | refine blk_alloc ?_ _)); refine blk_put (cs := #[.int .u32 t371, .int .u32 t372, .int .u32 0, .int .i64 0, .bool false, .bool false, .bool false, .bool false]) ?_ 2 _ rfl; (with_reducible repeat (first | refine blk_drewN ?_ _ | refine blk_drew ?_ | refine blk_alloc ?_ _)); refine blk_put (cs := #[.int .u32 t371, .int .u32 0, .int .u32 0, .int .i64 0, .bool false, .bool false, .bool false, .bool false]) ?_ 1 _ rfl; (with_reducible repeat (first | refine blk_drewN ?_ _ | refine blk_drew ?_ | refine blk_alloc ?_ _)); refine blk_put (cs := #[.int .u32 0, .int .u32 0, .int .u32 0, .int .i64 0, .bool false, .bool false, .bool false, .bool false]) ?_ 0 _ rfl; (with_reducible repeat (first | refine blk_drewN ?_ _ | refine blk_drew ?_ | refine blk_alloc ?_ _)); exact BK380.out) hb); have n2_ := Aside0.mk (below_step (by repeat (first | (with_reducible first | exact HB.out | apply below_alloc | apply pw_below_drewN | apply below_drew1 | refine below_set ?_ GE370.out | refine below_set ?_ GE380.out) | exact HB.out)) hb); clear BK370; clear BK380; clear HB; have BK370 := n0_; have BK380 := n1_; have HB := n2_; clear n0_ n1_ n2_; (try clear hb); (try clear hb2); (try clear hk); (try clear hi)))
  (try simp only [Act.put, List.setIfInBounds_toArray, List.set_cons_zero, List.set_cons_succ])
  go_cut [24] (fun v24 wc => ∃ (kq : Nat) (x24_3 : Bool), v24 = .bool x24_3 ∧ Aside0 (inst_Reads.j0 kq x24_3 a0_0 a0_1 a0_2 a0_3 a0_4 t371 t372 t373 t374 t375 t376 t377 t378 = some r) ∧ Aside0 (kq ≤ k) ∧ Aside0 (wc.heap[gb370]? = some (.cells #[.int .i64 a0_0, .int .i64 a0_1, .int .i64 a0_2, .int .i64 a0_3, .int .i32 a0_4] 24 (0, 0))) ∧ Aside0 (wc.heap[gb380]? = some (.cells #[.int .u32 t371, .int .u32 t372, .int .u32 t373, .int .i64 t374, .bool t375, .bool t376, .bool t377, .bool t378] 51 (0, 0))) ∧ Aside0 (Below w.heap.size w wc))
  case first =>
    have H := HC4.out
    clear HC4
    by_cases c13 : t379 = true
    · subst c13
      have H1 : (inst_Reads.j0 k (!t382) a0_0 a0_1 a0_2 a0_3 a0_4 t371 t372 t373 t374 t375 t376 t377 t378) = some r := by rw [if_pos rfl] at H; exact H
      clear H
      have H := H1
      clear H1
      have H' := Aside0.mk H
      clear H
      go_wp2
      go_meet
      case rel => exact ⟨_, (!t382), (by first | rfl | (simp; done) | (simp [*]; done)), H', ⟨by first | omega | exact Nat.le_refl _⟩, ⟨by (with_reducible repeat (first | refine blk_drewN ?_ _ | refine blk_drew ?_ | refine blk_alloc ?_ _)); exact BK370.out⟩, ⟨by (with_reducible repeat (first | refine blk_drewN ?_ _ | refine blk_drew ?_ | refine blk_alloc ?_ _)); exact BK380.out⟩, ⟨by repeat (first | (with_reducible first | exact HB.out | apply below_alloc | apply pw_below_drewN | apply below_drew1 | refine below_set ?_ GE370.out | refine below_set ?_ GE380.out) | exact HB.out)⟩⟩
    · replace c13 := Bool.eq_false_iff.mpr c13
      subst c13
      have H1 : (inst_Reads.j0 k true a0_0 a0_1 a0_2 a0_3 a0_4 t371 t372 t373 t374 t375 t376 t377 t378) = some r := by rw [if_neg (show ¬ (false = true) by decide)] at H; exact H
      clear H
      have H := H1
      clear H1
      have H' := Aside0.mk H
      clear H
      go_wp2
      go_meet
      case rel => exact ⟨_, (true), (by first | rfl | (simp; done) | (simp [*]; done)), H', ⟨by first | omega | exact Nat.le_refl _⟩, ⟨by (with_reducible repeat (first | refine blk_drewN ?_ _ | refine blk_drew ?_ | refine blk_alloc ?_ _)); exact BK370.out⟩, ⟨by (with_reducible repeat (first | refine blk_drewN ?_ _ | refine blk_drew ?_ | refine blk_alloc ?_ _)); exact BK380.out⟩, ⟨by repeat (first | (with_reducible first | exact HB.out | apply below_alloc | apply pw_below_drewN | apply below_drew1 | refine below_set ?_ GE370.out | refine below_set ?_ GE380.out) | exact HB.out)⟩⟩
  case rest =>
    clear HC4
    try clear c1
    try clear c2
    try clear p2
    try clear c9
    try clear c13
    try clear hcz10_0
    try clear hcz10_1
    try clear hcz10_2
    try clear hcz10_3
    try clear hcz10_4
    try clear hcz10_5
    try clear hcz10_6
    try clear hcz10_7
    try clear hcz11_0
    try clear hcz11_1
    try clear hcz11_2
    try clear hcz11_3
    try clear hcz11_4
    try clear hcz6_0
    try clear hcz6_1
    try clear hcz6_2
    try clear hcz6_3
    try clear hcz6_4
    try clear hfz10_0
    try clear hfz10_1
    try clear hfz10_2
    try clear hfz10_3
    try clear hfz10_4
    try clear hfz10_5
    try clear hfz10_6
    try clear hfz10_7
    try clear hfz11_0
    try clear hfz11_1
    try clear hfz11_2
    try clear hfz11_3
    try clear hfz11_4
    try clear hfz6_0
    try clear hfz6_1
    try clear hfz6_2
    try clear hfz6_3
    try clear hfz6_4
    obtain ⟨kq, x24_3, rfl, HA, HJ3, BK370, BK380, HB⟩ := hcut
    cases kq with
    | zero => exact absurd HA.out (by simp [inst_Reads.j0])
    | succ kj3 =>
      have H := HA.out
      clear HA
      simp only [inst_Reads.j0] at H
      by_cases c14 : x24_3 = true
      · subst c14
        have H1 : (some ([] : List Int)) = some r := by rw [if_pos rfl] at H; exact H
        clear H
        have H := H1
        clear H1
        obtain rfl := Option.some.inj H
        go_wp2
        go_ret
        exact ⟨_, by first | rfl | (simp [errW_none, errW_some] <;> rfl) | (simp [*, errW_none, errW_some] <;> rfl), by first | exact Kd.R_nil _ _ _ _ _ | exact Kd.N_nil _ _ _ _ _ | exact Kd.V_nil _ _ _ _ _ | exact Kd.Q_nil _ _ _ _ _ | exact Kd.S_nil _ _ _ _ _, by repeat (first | (with_reducible first | exact HB.out | apply below_alloc | apply pw_below_drewN | apply below_drew1 | refine below_set ?_ GE370.out | refine below_set ?_ GE380.out) | exact HB.out)⟩
      · replace c14 := Bool.eq_false_iff.mpr c14
        subst c14
        have H1 : (if t376 = true then (if ([] : List Int).length < 17592186044416 then ((some (([] : List Int) ++ [a0_2] : List Int)).bind fun y383 => (if t377 = true then (if y383.length < 17592186044416 then (some (y383 ++ [a0_3])) else (none)) else (some y383))) else (none)) else (if t377 = true then (if ([] : List Int).length < 17592186044416 then (some (([] : List Int) ++ [a0_3])) else (none)) else (some ([] : List Int)))) = some r := by rw [if_neg (show ¬ (false = true) by decide)] at H; exact H
        clear H
        have H := H1
        clear H1
        by_cases c15 : t376 = true
        · subst c15
          have H1 : (if ([] : List Int).length < 17592186044416 then ((some (([] : List Int) ++ [a0_2] : List Int)).bind fun y383 => (if t377 = true then (if y383.length < 17592186044416 then (some (y383 ++ [a0_3])) else (none)) else (some y383))) else (none)) = some r := by rw [if_pos rfl] at H; exact H
          clear H
          have H := H1
          clear H1
          by_cases c16 : ([] : List Int).length < 17592186044416
          · rw [if_pos c16] at H
            have LMc16 := Aside0.mk c16
            clear c16
            obtain ⟨y383, hy383⟩ : ∃ y_ : List Int, y_ = (([] : List Int) ++ [a0_2]) := ⟨_, rfl⟩
            replace H : (if t377 = true then (if y383.length < 17592186044416 then (some (y383 ++ [a0_3])) else (none)) else (some y383)) = some r := by first | (rw [hy383]; with_reducible exact H) | (have H2_ := (Option.bind_some _ _).symm.trans H; rw [hy383]; with_reducible exact H2_) | (have H2_ := (Option.bind_some _ _).symm.trans H; with_reducible exact H2_) | with_reducible exact H | (rw [hy383]; exact H) | exact H
            have Ny383 := Aside0.mk hy383
            clear hy383
            by_cases c17 : t377 = true
            · subst c17
              have H1 : (if y383.length < 17592186044416 then (some (y383 ++ [a0_3])) else (none)) = some r := by rw [if_pos rfl] at H; exact H
              clear H
              have H := H1
              clear H1
              by_cases c18 : y383.length < 17592186044416
              · rw [if_pos c18] at H
                have LMc18 := Aside0.mk c18
                clear c18
                obtain ⟨y386, hy386⟩ : ∃ y_ : List Int, y_ = (y383 ++ [a0_3]) := ⟨_, rfl⟩
                replace H : (some y386) = some r := by first | (rw [hy386]; with_reducible exact H) | (have H2_ := (Option.bind_some _ _).symm.trans H; rw [hy386]; with_reducible exact H2_) | (have H2_ := (Option.bind_some _ _).symm.trans H; with_reducible exact H2_) | with_reducible exact H | (rw [hy386]; exact H) | exact H
                have Ny386 := Aside0.mk hy386
                clear hy386
                obtain rfl := Option.some.inj H
                have hnb19 := NB380_370.out
                have hnc19 := NB370_380.out
                have hcz20_0 : wc.cell? ⟨gb380, 0, none⟩ = some (.int .u32 t371) := (blk_cell BK380.out 0).trans rfl
                have hcz20_1 : wc.cell? ⟨gb380, 1, none⟩ = some (.int .u32 t372) := (blk_cell BK380.out 1).trans rfl
                have hcz20_2 : wc.cell? ⟨gb380, 2, none⟩ = some (.int .u32 t373) := (blk_cell BK380.out 2).trans rfl
                have hcz20_3 : wc.cell? ⟨gb380, 3, none⟩ = some (.int .i64 t374) := (blk_cell BK380.out 3).trans rfl
                have hcz20_4 : wc.cell? ⟨gb380, 4, none⟩ = some (.bool t375) := (blk_cell BK380.out 4).trans rfl
                have hcz20_5 : wc.cell? ⟨gb380, 5, none⟩ = some (.bool true) := (blk_cell BK380.out 5).trans rfl
                have hcz20_6 : wc.cell? ⟨gb380, 6, none⟩ = some (.bool true) := (blk_cell BK380.out 6).trans rfl
                have hcz20_7 : wc.cell? ⟨gb380, 7, none⟩ = some (.bool t378) := (blk_cell BK380.out 7).trans rfl
                have hfz20_0 := blk_frozen BK380.out 0
                have hfz20_1 := blk_frozen BK380.out 1
                have hfz20_2 := blk_frozen BK380.out 2
                have hfz20_3 := blk_frozen BK380.out 3
                have hfz20_4 := blk_frozen BK380.out 4
                have hfz20_5 := blk_frozen BK380.out 5
                have hfz20_6 := blk_frozen BK380.out 6
                have hfz20_7 := blk_frozen BK380.out 7
                have hcz21_0 : wc.cell? ⟨gb370, 0, none⟩ = some (.int .i64 a0_0) := (blk_cell BK370.out 0).trans rfl
                have hcz21_1 : wc.cell? ⟨gb370, 1, none⟩ = some (.int .i64 a0_1) := (blk_cell BK370.out 1).trans rfl
                have hcz21_2 : wc.cell? ⟨gb370, 2, none⟩ = some (.int .i64 a0_2) := (blk_cell BK370.out 2).trans rfl
                have hcz21_3 : wc.cell? ⟨gb370, 3, none⟩ = some (.int .i64 a0_3) := (blk_cell BK370.out 3).trans rfl
                have hcz21_4 : wc.cell? ⟨gb370, 4, none⟩ = some (.int .i32 a0_4) := (blk_cell BK370.out 4).trans rfl
                have hfz21_0 := blk_frozen BK370.out 0
                have hfz21_1 := blk_frozen BK370.out 1
                have hfz21_2 := blk_frozen BK370.out 2
                have hfz21_3 := blk_frozen BK370.out 3
                have hfz21_4 := blk_frozen BK370.out 4
                go_wp2_with (first | ((with_reducible refine gate_builtin (b := .append) (xs := #[.tmp 27, .tmp 30]) rfl ?_); at_builtin; refine Kd.R_append (Kd.int .i64) (w0 := w) w.heap.size rfl (.tmp 27) (.tmp 30) 38 3 (.int .i64 0) 8 rfl Try.underlying38 info3 rfl (by decide) (by omega) (.slice none 0 0) ([] : List Int) a0_2 [.int .i64 a0_2] (fun _ => True) (fun _ => False) rfl rfl ?aP (fun _ hk => hk.elim) ?aF ?aO ?aB ?aS ?aL ?_; (case aP => exact rfl); (case aB => exact (by repeat (first | (with_reducible first | exact HB.out | apply below_alloc | apply pw_below_drewN | apply below_drew1 | refine below_set ?_ GE370.out | refine below_set ?_ GE380.out) | exact HB.out))); (case aF => exact (fun _ _ => trivial)); (case aO => exact ((Kd.R_nil _ _ _ _ (fun _ => True)))); (case aS => exact (below_size (by repeat (first | (with_reducible first | exact HB.out | apply below_alloc | apply pw_below_drewN | apply below_drew1 | refine below_set ?_ GE370.out | refine below_set ?_ GE380.out) | exact HB.out)))); (case aL => have := LMc16.out; omega); intro v384 w22 ho hb hg hat; rw [← Ny383.out] at ho; have n0_ := Aside0.mk (blk_grown (g := gb370) (o := .cells #[.int .i64 a0_0, .int .i64 a0_1, .int .i64 a0_2, .int .i64 a0_3, .int .i32 a0_4] 24 (0, 0)) (by (with_reducible repeat (first | refine blk_drewN ?_ _ | refine blk_drew ?_ | refine blk_alloc ?_ _)); exact BK370.out) hg (by simp [Value.ownBlock])); have n1_ := Aside0.mk (blk_grown (g := gb380) (o := .cells #[.int .u32 t371, .int .u32 t372, .int .u32 t373, .int .i64 t374, .bool t375, .bool true, .bool true, .bool t378] 51 (0, 0)) (by (with_reducible repeat (first | refine blk_drewN ?_ _ | refine blk_drew ?_ | refine blk_alloc ?_ _)); exact BK380.out) hg (by simp [Value.ownBlock])); have n2_ := Aside0.mk (hb); have n3_ := Aside0.mk (ho); clear BK370; clear BK380; clear HB; have BK370 := n0_; have BK380 := n1_; have HB := n2_; have HO385 := n3_; clear n0_ n1_ n2_ n3_; clear ho hb hg hat; have hcz23_0 : w22.cell? ⟨gb380, 0, none⟩ = some (.int .u32 t371) := (blk_cell BK380.out 0).trans rfl; have hcz23_1 : w22.cell? ⟨gb380, 1, none⟩ = some (.int .u32 t372) := (blk_cell BK380.out 1).trans rfl; have hcz23_2 : w22.cell? ⟨gb380, 2, none⟩ = some (.int .u32 t373) := (blk_cell BK380.out 2).trans rfl; have hcz23_3 : w22.cell? ⟨gb380, 3, none⟩ = some (.int .i64 t374) := (blk_cell BK380.out 3).trans rfl; have hcz23_4 : w22.cell? ⟨gb380, 4, none⟩ = some (.bool t375) := (blk_cell BK380.out 4).trans rfl; have hcz23_5 : w22.cell? ⟨gb380, 5, none⟩ = some (.bool true) := (blk_cell BK380.out 5).trans rfl; have hcz23_6 : w22.cell? ⟨gb380, 6, none⟩ = some (.bool true) := (blk_cell BK380.out 6).trans rfl; have hcz23_7 : w22.cell? ⟨gb380, 7, none⟩ = some (.bool t378) := (blk_cell BK380.out 7).trans rfl; have hfz23_0 := blk_frozen BK380.out 0; have hfz23_1 := blk_frozen BK380.out 1; have hfz23_2 := blk_frozen BK380.out 2; have hfz23_3 := blk_frozen BK380.out 3; have hfz23_4 := blk_frozen BK380.out 4; have hfz23_5 := blk_frozen BK380.out 5; have hfz23_6 := blk_frozen BK380.out 6; have hfz23_7 := blk_frozen BK380.out 7; have hcz24_0 : w22.cell? ⟨gb370, 0, none⟩ = some (.int .i64 a0_0) := (blk_cell BK370.out 0).trans rfl; have hcz24_1 : w22.cell? ⟨gb370, 1, none⟩ = some (.int .i64 a0_1) := (blk_cell BK370.out 1).trans rfl; have hcz24_2 : w22.cell? ⟨gb370, 2, none⟩ = some (.int .i64 a0_2) := (blk_cell BK370.out 2).trans rfl; have hcz24_3 : w22.cell? ⟨gb370, 3, none⟩ = some (.int .i64 a0_3) := (blk_cell BK370.out 3).trans rfl; have hcz24_4 : w22.cell? ⟨gb370, 4, none⟩ = some (.int .i32 a0_4) := (blk_cell BK370.out 4).trans rfl; have hfz24_0 := blk_frozen BK370.out 0; have hfz24_1 := blk_frozen BK370.out 1; have hfz24_2 := blk_frozen BK370.out 2; have hfz24_3 := blk_frozen BK370.out 3; have hfz24_4 := blk_frozen BK370.out 4) | ((with_reducible refine gate_builtin (b := .append) (xs := #[.tmp 34, .tmp 37]) rfl ?_); at_builtin; refine Kd.R_append (Kd.int .i64) (w0 := w) w.heap.size rfl (.tmp 34) (.tmp 37) 38 3 (.int .i64 0) 8 rfl Try.underlying38 info3 rfl (by decide) (by omega) v384 y383 a0_3 [.int .i64 a0_3] (fun _ => True) (fun _ => False) rfl rfl ?aP (fun _ hk => hk.elim) ?aF ?aO ?aB ?aS ?aL ?_; (case aP => exact rfl); (case aB => exact (by repeat (first | (with_reducible first | exact HB.out | apply below_alloc | apply pw_below_drewN | apply below_drew1 | refine below_set ?_ GE370.out | refine below_set ?_ GE380.out) | exact HB.out))); (case aF => exact (fun _ _ => trivial)); (case aO => exact (by (with_reducible repeat (first | apply Kd.R_alloc | apply Kd.R_drewN | apply Kd.R_drew)); exact HO385.out)); (case aS => exact (below_size (by repeat (first | (with_reducible first | exact HB.out | apply below_alloc | apply pw_below_drewN | apply below_drew1 | refine below_set ?_ GE370.out | refine below_set ?_ GE380.out) | exact HB.out)))); (case aL => have := LMc18.out; omega); intro v387 w25 ho hb hg hat; rw [← Ny386.out] at ho; have n0_ := Aside0.mk (blk_grown (g := gb370) (o := .cells #[.int .i64 a0_0, .int .i64 a0_1, .int .i64 a0_2, .int .i64 a0_3, .int .i32 a0_4] 24 (0, 0)) (by (with_reducible repeat (first | refine blk_drewN ?_ _ | refine blk_drew ?_ | refine blk_alloc ?_ _)); exact BK370.out) hg (Kd.R_ne HO385.out BK370.out (by decide))); have n1_ := Aside0.mk (blk_grown (g := gb380) (o := .cells #[.int .u32 t371, .int .u32 t372, .int .u32 t373, .int .i64 t374, .bool t375, .bool true, .bool true, .bool t378] 51 (0, 0)) (by (with_reducible repeat (first | refine blk_drewN ?_ _ | refine blk_drew ?_ | refine blk_alloc ?_ _)); exact BK380.out) hg (Kd.R_ne HO385.out BK380.out (by decide))); have n2_ := Aside0.mk (hb); have n3_ := Aside0.mk (ho); clear BK370; clear BK380; clear HB; clear HO385; have BK370 := n0_; have BK380 := n1_; have HB := n2_; have HO388 := n3_; clear n0_ n1_ n2_ n3_; clear ho hb hg hat))
                go_ret
                exact ⟨_, by first | rfl | (simp [errW_none, errW_some] <;> rfl) | (simp [*, errW_none, errW_some] <;> rfl), by (with_reducible repeat (first | apply Kd.R_alloc | apply Kd.R_drewN | apply Kd.R_drew)); exact HO388.out, by repeat (first | (with_reducible first | exact HB.out | apply below_alloc | apply pw_below_drewN | apply below_drew1 | refine below_set ?_ GE370.out | refine below_set ?_ GE380.out) | exact HB.out)⟩
              · rw [if_neg c18] at H
                exact absurd H (by simp)
            · replace c17 := Bool.eq_false_iff.mpr c17
              subst c17
              have H1 : (some y383) = some r := by rw [if_neg (show ¬ (false = true) by decide)] at H; exact H
              clear H
              have H := H1
              clear H1
              obtain rfl := Option.some.inj H
              have hnb26 := NB380_370.out
              have hnc26 := NB370_380.out
              have hcz27_0 : wc.cell? ⟨gb380, 0, none⟩ = some (.int .u32 t371) := (blk_cell BK380.out 0).trans rfl
              have hcz27_1 : wc.cell? ⟨gb380, 1, none⟩ = some (.int .u32 t372) := (blk_cell BK380.out 1).trans rfl
              have hcz27_2 : wc.cell? ⟨gb380, 2, none⟩ = some (.int .u32 t373) := (blk_cell BK380.out 2).trans rfl
              have hcz27_3 : wc.cell? ⟨gb380, 3, none⟩ = some (.int .i64 t374) := (blk_cell BK380.out 3).trans rfl
              have hcz27_4 : wc.cell? ⟨gb380, 4, none⟩ = some (.bool t375) := (blk_cell BK380.out 4).trans rfl
              have hcz27_5 : wc.cell? ⟨gb380, 5, none⟩ = some (.bool true) := (blk_cell BK380.out 5).trans rfl
              have hcz27_6 : wc.cell? ⟨gb380, 6, none⟩ = some (.bool false) := (blk_cell BK380.out 6).trans rfl
              have hcz27_7 : wc.cell? ⟨gb380, 7, none⟩ = some (.bool t378) := (blk_cell BK380.out 7).trans rfl
              have hfz27_0 := blk_frozen BK380.out 0
              have hfz27_1 := blk_frozen BK380.out 1
              have hfz27_2 := blk_frozen BK380.out 2
              have hfz27_3 := blk_frozen BK380.out 3
              have hfz27_4 := blk_frozen BK380.out 4
              have hfz27_5 := blk_frozen BK380.out 5
              have hfz27_6 := blk_frozen BK380.out 6
              have hfz27_7 := blk_frozen BK380.out 7
              have hcz28_0 : wc.cell? ⟨gb370, 0, none⟩ = some (.int .i64 a0_0) := (blk_cell BK370.out 0).trans rfl
              have hcz28_1 : wc.cell? ⟨gb370, 1, none⟩ = some (.int .i64 a0_1) := (blk_cell BK370.out 1).trans rfl
              have hcz28_2 : wc.cell? ⟨gb370, 2, none⟩ = some (.int .i64 a0_2) := (blk_cell BK370.out 2).trans rfl
              have hcz28_3 : wc.cell? ⟨gb370, 3, none⟩ = some (.int .i64 a0_3) := (blk_cell BK370.out 3).trans rfl
              have hcz28_4 : wc.cell? ⟨gb370, 4, none⟩ = some (.int .i32 a0_4) := (blk_cell BK370.out 4).trans rfl
              have hfz28_0 := blk_frozen BK370.out 0
              have hfz28_1 := blk_frozen BK370.out 1
              have hfz28_2 := blk_frozen BK370.out 2
              have hfz28_3 := blk_frozen BK370.out 3
              have hfz28_4 := blk_frozen BK370.out 4
              go_wp2_with (first | ((with_reducible refine gate_builtin (b := .append) (xs := #[.tmp 27, .tmp 30]) rfl ?_); at_builtin; refine Kd.R_append (Kd.int .i64) (w0 := w) w.heap.size rfl (.tmp 27) (.tmp 30) 38 3 (.int .i64 0) 8 rfl Try.underlying38 info3 rfl (by decide) (by omega) (.slice none 0 0) ([] : List Int) a0_2 [.int .i64 a0_2] (fun _ => True) (fun _ => False) rfl rfl ?aP (fun _ hk => hk.elim) ?aF ?aO ?aB ?aS ?aL ?_; (case aP => exact rfl); (case aB => exact (by repeat (first | (with_reducible first | exact HB.out | apply below_alloc | apply pw_below_drewN | apply below_drew1 | refine below_set ?_ GE370.out | refine below_set ?_ GE380.out) | exact HB.out))); (case aF => exact (fun _ _ => trivial)); (case aO => exact ((Kd.R_nil _ _ _ _ (fun _ => True)))); (case aS => exact (below_size (by repeat (first | (with_reducible first | exact HB.out | apply below_alloc | apply pw_below_drewN | apply below_drew1 | refine below_set ?_ GE370.out | refine below_set ?_ GE380.out) | exact HB.out)))); (case aL => have := LMc16.out; omega); intro v384 w29 ho hb hg hat; rw [← Ny383.out] at ho; have n0_ := Aside0.mk (blk_grown (g := gb370) (o := .cells #[.int .i64 a0_0, .int .i64 a0_1, .int .i64 a0_2, .int .i64 a0_3, .int .i32 a0_4] 24 (0, 0)) (by (with_reducible repeat (first | refine blk_drewN ?_ _ | refine blk_drew ?_ | refine blk_alloc ?_ _)); exact BK370.out) hg (by simp [Value.ownBlock])); have n1_ := Aside0.mk (blk_grown (g := gb380) (o := .cells #[.int .u32 t371, .int .u32 t372, .int .u32 t373, .int .i64 t374, .bool t375, .bool true, .bool false, .bool t378] 51 (0, 0)) (by (with_reducible repeat (first | refine blk_drewN ?_ _ | refine blk_drew ?_ | refine blk_alloc ?_ _)); exact BK380.out) hg (by simp [Value.ownBlock])); have n2_ := Aside0.mk (hb); have n3_ := Aside0.mk (ho); clear BK370; clear BK380; clear HB; have BK370 := n0_; have BK380 := n1_; have HB := n2_; have HO385 := n3_; clear n0_ n1_ n2_ n3_; clear ho hb hg hat; have hcz30_0 : w29.cell? ⟨gb380, 0, none⟩ = some (.int .u32 t371) := (blk_cell BK380.out 0).trans rfl; have hcz30_1 : w29.cell? ⟨gb380, 1, none⟩ = some (.int .u32 t372) := (blk_cell BK380.out 1).trans rfl; have hcz30_2 : w29.cell? ⟨gb380, 2, none⟩ = some (.int .u32 t373) := (blk_cell BK380.out 2).trans rfl; have hcz30_3 : w29.cell? ⟨gb380, 3, none⟩ = some (.int .i64 t374) := (blk_cell BK380.out 3).trans rfl; have hcz30_4 : w29.cell? ⟨gb380, 4, none⟩ = some (.bool t375) := (blk_cell BK380.out 4).trans rfl; have hcz30_5 : w29.cell? ⟨gb380, 5, none⟩ = some (.bool true) := (blk_cell BK380.out 5).trans rfl; have hcz30_6 : w29.cell? ⟨gb380, 6, none⟩ = some (.bool false) := (blk_cell BK380.out 6).trans rfl; have hcz30_7 : w29.cell? ⟨gb380, 7, none⟩ = some (.bool t378) := (blk_cell BK380.out 7).trans rfl; have hfz30_0 := blk_frozen BK380.out 0; have hfz30_1 := blk_frozen BK380.out 1; have hfz30_2 := blk_frozen BK380.out 2; have hfz30_3 := blk_frozen BK380.out 3; have hfz30_4 := blk_frozen BK380.out 4; have hfz30_5 := blk_frozen BK380.out 5; have hfz30_6 := blk_frozen BK380.out 6; have hfz30_7 := blk_frozen BK380.out 7))
              go_ret
              exact ⟨_, by first | rfl | (simp [errW_none, errW_some] <;> rfl) | (simp [*, errW_none, errW_some] <;> rfl), by (with_reducible repeat (first | apply Kd.R_alloc | apply Kd.R_drewN | apply Kd.R_drew)); exact HO385.out, by repeat (first | (with_reducible first | exact HB.out | apply below_alloc | apply pw_below_drewN | apply below_drew1 | refine below_set ?_ GE370.out | refine below_set ?_ GE380.out) | exact HB.out)⟩
          · rw [if_neg c16] at H
            exact absurd H (by simp)
        · replace c15 := Bool.eq_false_iff.mpr c15
          subst c15
          have H1 : (if t377 = true then (if ([] : List Int).length < 17592186044416 then (some (([] : List Int) ++ [a0_3])) else (none)) else (some ([] : List Int))) = some r := by rw [if_neg (show ¬ (false = true) by decide)] at H; exact H
          clear H
          have H := H1
          clear H1
          by_cases c31 : t377 = true
          · subst c31
            have H1 : (if ([] : List Int).length < 17592186044416 then (some (([] : List Int) ++ [a0_3])) else (none)) = some r := by rw [if_pos rfl] at H; exact H
            clear H
            have H := H1
            clear H1
            by_cases c32 : ([] : List Int).length < 17592186044416
            · rw [if_pos c32] at H
              have LMc32 := Aside0.mk c32
              clear c32
              obtain ⟨y389, hy389⟩ : ∃ y_ : List Int, y_ = (([] : List Int) ++ [a0_3]) := ⟨_, rfl⟩
              replace H : (some y389) = some r := by first | (rw [hy389]; with_reducible exact H) | (have H2_ := (Option.bind_some _ _).symm.trans H; rw [hy389]; with_reducible exact H2_) | (have H2_ := (Option.bind_some _ _).symm.trans H; with_reducible exact H2_) | with_reducible exact H | (rw [hy389]; exact H) | exact H
              have Ny389 := Aside0.mk hy389
              clear hy389
              obtain rfl := Option.some.inj H
              have hnb33 := NB380_370.out
              have hnc33 := NB370_380.out
              have hcz34_0 : wc.cell? ⟨gb380, 0, none⟩ = some (.int .u32 t371) := (blk_cell BK380.out 0).trans rfl
              have hcz34_1 : wc.cell? ⟨gb380, 1, none⟩ = some (.int .u32 t372) := (blk_cell BK380.out 1).trans rfl
              have hcz34_2 : wc.cell? ⟨gb380, 2, none⟩ = some (.int .u32 t373) := (blk_cell BK380.out 2).trans rfl
              have hcz34_3 : wc.cell? ⟨gb380, 3, none⟩ = some (.int .i64 t374) := (blk_cell BK380.out 3).trans rfl
              have hcz34_4 : wc.cell? ⟨gb380, 4, none⟩ = some (.bool t375) := (blk_cell BK380.out 4).trans rfl
              have hcz34_5 : wc.cell? ⟨gb380, 5, none⟩ = some (.bool false) := (blk_cell BK380.out 5).trans rfl
              have hcz34_6 : wc.cell? ⟨gb380, 6, none⟩ = some (.bool true) := (blk_cell BK380.out 6).trans rfl
              have hcz34_7 : wc.cell? ⟨gb380, 7, none⟩ = some (.bool t378) := (blk_cell BK380.out 7).trans rfl
              have hfz34_0 := blk_frozen BK380.out 0
              have hfz34_1 := blk_frozen BK380.out 1
              have hfz34_2 := blk_frozen BK380.out 2
              have hfz34_3 := blk_frozen BK380.out 3
              have hfz34_4 := blk_frozen BK380.out 4
              have hfz34_5 := blk_frozen BK380.out 5
              have hfz34_6 := blk_frozen BK380.out 6
              have hfz34_7 := blk_frozen BK380.out 7
              have hcz35_0 : wc.cell? ⟨gb370, 0, none⟩ = some (.int .i64 a0_0) := (blk_cell BK370.out 0).trans rfl
              have hcz35_1 : wc.cell? ⟨gb370, 1, none⟩ = some (.int .i64 a0_1) := (blk_cell BK370.out 1).trans rfl
              have hcz35_2 : wc.cell? ⟨gb370, 2, none⟩ = some (.int .i64 a0_2) := (blk_cell BK370.out 2).trans rfl
              have hcz35_3 : wc.cell? ⟨gb370, 3, none⟩ = some (.int .i64 a0_3) := (blk_cell BK370.out 3).trans rfl
              have hcz35_4 : wc.cell? ⟨gb370, 4, none⟩ = some (.int .i32 a0_4) := (blk_cell BK370.out 4).trans rfl
              have hfz35_0 := blk_frozen BK370.out 0
              have hfz35_1 := blk_frozen BK370.out 1
              have hfz35_2 := blk_frozen BK370.out 2
              have hfz35_3 := blk_frozen BK370.out 3
              have hfz35_4 := blk_frozen BK370.out 4
              go_wp2_with (first | ((with_reducible refine gate_builtin (b := .append) (xs := #[.tmp 34, .tmp 37]) rfl ?_); at_builtin; refine Kd.R_append (Kd.int .i64) (w0 := w) w.heap.size rfl (.tmp 34) (.tmp 37) 38 3 (.int .i64 0) 8 rfl Try.underlying38 info3 rfl (by decide) (by omega) (.slice none 0 0) ([] : List Int) a0_3 [.int .i64 a0_3] (fun _ => True) (fun _ => False) rfl rfl ?aP (fun _ hk => hk.elim) ?aF ?aO ?aB ?aS ?aL ?_; (case aP => exact rfl); (case aB => exact (by repeat (first | (with_reducible first | exact HB.out | apply below_alloc | apply pw_below_drewN | apply below_drew1 | refine below_set ?_ GE370.out | refine below_set ?_ GE380.out) | exact HB.out))); (case aF => exact (fun _ _ => trivial)); (case aO => exact ((Kd.R_nil _ _ _ _ (fun _ => True)))); (case aS => exact (below_size (by repeat (first | (with_reducible first | exact HB.out | apply below_alloc | apply pw_below_drewN | apply below_drew1 | refine below_set ?_ GE370.out | refine below_set ?_ GE380.out) | exact HB.out)))); (case aL => have := LMc32.out; omega); intro v390 w36 ho hb hg hat; rw [← Ny389.out] at ho; have n0_ := Aside0.mk (blk_grown (g := gb370) (o := .cells #[.int .i64 a0_0, .int .i64 a0_1, .int .i64 a0_2, .int .i64 a0_3, .int .i32 a0_4] 24 (0, 0)) (by (with_reducible repeat (first | refine blk_drewN ?_ _ | refine blk_drew ?_ | refine blk_alloc ?_ _)); exact BK370.out) hg (by simp [Value.ownBlock])); have n1_ := Aside0.mk (blk_grown (g := gb380) (o := .cells #[.int .u32 t371, .int .u32 t372, .int .u32 t373, .int .i64 t374, .bool t375, .bool false, .bool true, .bool t378] 51 (0, 0)) (by (with_reducible repeat (first | refine blk_drewN ?_ _ | refine blk_drew ?_ | refine blk_alloc ?_ _)); exact BK380.out) hg (by simp [Value.ownBlock])); have n2_ := Aside0.mk (hb); have n3_ := Aside0.mk (ho); clear BK370; clear BK380; clear HB; have BK370 := n0_; have BK380 := n1_; have HB := n2_; have HO391 := n3_; clear n0_ n1_ n2_ n3_; clear ho hb hg hat))
              go_ret
              exact ⟨_, by first | rfl | (simp [errW_none, errW_some] <;> rfl) | (simp [*, errW_none, errW_some] <;> rfl), by (with_reducible repeat (first | apply Kd.R_alloc | apply Kd.R_drewN | apply Kd.R_drew)); exact HO391.out, by repeat (first | (with_reducible first | exact HB.out | apply below_alloc | apply pw_below_drewN | apply below_drew1 | refine below_set ?_ GE370.out | refine below_set ?_ GE380.out) | exact HB.out)⟩
            · rw [if_neg c32] at H
              exact absurd H (by simp)
          · replace c31 := Bool.eq_false_iff.mpr c31
            subst c31
            have H1 : (some ([] : List Int)) = some r := by rw [if_neg (show ¬ (false = true) by decide)] at H; exact H
            clear H
            have H := H1
            clear H1
            obtain rfl := Option.some.inj H
            have hnb37 := NB380_370.out
            have hnc37 := NB370_380.out
            have hcz38_0 : wc.cell? ⟨gb380, 0, none⟩ = some (.int .u32 t371) := (blk_cell BK380.out 0).trans rfl
            have hcz38_1 : wc.cell? ⟨gb380, 1, none⟩ = some (.int .u32 t372) := (blk_cell BK380.out 1).trans rfl
            have hcz38_2 : wc.cell? ⟨gb380, 2, none⟩ = some (.int .u32 t373) := (blk_cell BK380.out 2).trans rfl
            have hcz38_3 : wc.cell? ⟨gb380, 3, none⟩ = some (.int .i64 t374) := (blk_cell BK380.out 3).trans rfl
            have hcz38_4 : wc.cell? ⟨gb380, 4, none⟩ = some (.bool t375) := (blk_cell BK380.out 4).trans rfl
            have hcz38_5 : wc.cell? ⟨gb380, 5, none⟩ = some (.bool false) := (blk_cell BK380.out 5).trans rfl
            have hcz38_6 : wc.cell? ⟨gb380, 6, none⟩ = some (.bool false) := (blk_cell BK380.out 6).trans rfl
            have hcz38_7 : wc.cell? ⟨gb380, 7, none⟩ = some (.bool t378) := (blk_cell BK380.out 7).trans rfl
            have hfz38_0 := blk_frozen BK380.out 0
            have hfz38_1 := blk_frozen BK380.out 1
            have hfz38_2 := blk_frozen BK380.out 2
            have hfz38_3 := blk_frozen BK380.out 3
            have hfz38_4 := blk_frozen BK380.out 4
            have hfz38_5 := blk_frozen BK380.out 5
            have hfz38_6 := blk_frozen BK380.out 6
            have hfz38_7 := blk_frozen BK380.out 7
            go_wp2
            go_ret
            exact ⟨_, by first | rfl | (simp [errW_none, errW_some] <;> rfl) | (simp [*, errW_none, errW_some] <;> rfl), by first | exact Kd.R_nil _ _ _ _ _ | exact Kd.N_nil _ _ _ _ _ | exact Kd.V_nil _ _ _ _ _ | exact Kd.Q_nil _ _ _ _ _ | exact Kd.S_nil _ _ _ _ _, by repeat (first | (with_reducible first | exact HB.out | apply below_alloc | apply pw_below_drewN | apply below_drew1 | refine below_set ?_ GE370.out | refine below_set ?_ GE380.out) | exact HB.out)⟩
end Go.Proofs.Ytmjiimajbaeicaa.PInst
