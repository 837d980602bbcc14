/- d3E: a plain function with the same answers as the program's, and the proof of it, as a program has written them. -/
import Derived.Test.YtihecimbhhlhaaaRsG1
import Derived.Test.YtihecimbhhlhaaaRsPintleref03Of
import Derived.Test.YtihecimbhhlhaaaRsG4
import Derived.Test.YtihecimbhhlhaaaRsMc
namespace Go.Proofs.Ytihecimbhhlhaaa.PRs
open Go.RowKit Go.Proofs.YtihecimbhhlhaaaW.PrintWords Go.Proofs.YtihecimbhhlhaaaW.PrintLast Go.Proofs.YtihecimbhhlhaaaW.PrintMore
set_option linter.unusedVariables false
set_option linter.unusedSimpArgs false
/-! ### d3E: function 31 -/
mutual
def d3E.j0 : Nat → Bool → Int → Int → Int → Int → Int → Option (Int × Bool)
 | 0, _, _, _, _, _, _ => none
 | k + 1, x16, x339000, x339001, x339002, x339003, x339004 => if x16 = true then (if x339001 = 0 then (if x339002 = 0 then (if x339003 = 0 then (if x339004 = 0 then (some (115 + wrap64 (x339000 - 47) % 4294967296 * 1048576 % 4294967296, true)) else (some (0, false))) else (some (0, false))) else (some (0, false))) else (some (0, false))) else ((d3O.f k x339000).bind fun bt339 => (if bt339.2.2.2.2.2.2.2 = true then ((d3r.f x339001 bt339.2.2.2.2.1).bind fun t348 => (if t348 = true then ((d3r.f x339002 bt339.2.2.2.2.2.1).bind fun t349 => (if t349 = true then ((d3r.f x339003 bt339.2.2.2.2.2.2.1).bind fun t350 => (d3E.j1 k (!t350) x339000 x339001 x339002 x339003 x339004 bt339.1 bt339.2.1 bt339.2.2.1 bt339.2.2.2.1 bt339.2.2.2.2.1 bt339.2.2.2.2.2.1 bt339.2.2.2.2.2.2.1)) else (d3E.j1 k true x339000 x339001 x339002 x339003 x339004 bt339.1 bt339.2.1 bt339.2.2.1 bt339.2.2.2.1 bt339.2.2.2.2.1 bt339.2.2.2.2.2.1 bt339.2.2.2.2.2.2.1))) else (d3E.j1 k true x339000 x339001 x339002 x339003 x339004 bt339.1 bt339.2.1 bt339.2.2.1 bt339.2.2.2.1 bt339.2.2.2.2.1 bt339.2.2.2.2.2.1 bt339.2.2.2.2.2.2.1))) else (d3E.j1 k true x339000 x339001 x339002 x339003 x339004 bt339.1 bt339.2.1 bt339.2.2.1 bt339.2.2.2.1 bt339.2.2.2.2.1 bt339.2.2.2.2.2.1 bt339.2.2.2.2.2.2.1)))
def d3E.j1 : Nat → Bool → Int → Int → Int → Int → Int → Int → Int → Int → Int → Bool → Bool → Bool → Option (Int × Bool)
 | 0, _, _, _, _, _, _, _, _, _, _, _, _, _ => none
 | k + 1, x72, x339000, x339001, x339002, x339003, x339004, x348000, x348001, x348002, x348003, x348004, x348005, x348006 => if x72 = true then (some (0, false)) else ((d2P.f k x348003 x339004).bind fun bt351 => (if x348003 = 0 then (d3E.j2 k ((((((((((x348000 + ((x348001 * 4096) % 4294967296)) % 4294967296) + ((x348002 * 33554432) % 4294967296)) % 4294967296) + ((((x339001) % 4294967296) * 128) % 4294967296)) % 4294967296) + ((((x339002) % 4294967296) * 32768) % 4294967296)) % 4294967296) + ((((x339003) % 4294967296) * 1048576) % 4294967296)) % 4294967296) 0 (x339004 == 0) x339000 x339001 x339002 x339003 x339004 x348000 x348001 x348002 x348003 x348004 x348005 x348006) else (d3E.j2 k ((((((((((x348000 + ((x348001 * 4096) % 4294967296)) % 4294967296) + ((x348002 * 33554432) % 4294967296)) % 4294967296) + ((((x339001) % 4294967296) * 128) % 4294967296)) % 4294967296) + ((((x339002) % 4294967296) * 32768) % 4294967296)) % 4294967296) + ((((x339003) % 4294967296) * 1048576) % 4294967296)) % 4294967296) bt351.1 bt351.2 x339000 x339001 x339002 x339003 x339004 x348000 x348001 x348002 x348003 x348004 x348005 x348006)))
def d3E.j2 : Nat → Int → Int → Bool → Int → Int → Int → Int → Int → Int → Int → Int → Int → Bool → Bool → Bool → Option (Int × Bool)
 | 0, _, _, _, _, _, _, _, _, _, _, _, _, _, _, _ => none
 | k + 1, x6, x7, x8, x339000, x339001, x339002, x339003, x339004, x348000, x348001, x348002, x348003, x348004, x348005, x348006 => if x348003 = 6 then (if x339004 ≥ 0 then (if x339004 < 32 then (some ((x6 + ((((x339004) % 4294967296) * 1048576) % 4294967296)) % 4294967296, true)) else (some (0, false))) else (some (0, false))) else (if x8 = true then (some ((x6 + x7) % 4294967296, true)) else (some (0, false)))
end
def d3E.f (k : Nat) (a0_0 : Int) (a0_1 : Int) (a0_2 : Int) (a0_3 : Int) (a0_4 : Int) : Option (Int × Bool) := if a0_0 = 47 then (d3E.j0 k true a0_0 a0_1 a0_2 a0_3 a0_4) else (d3E.j0 k (a0_0 == 48) a0_0 a0_1 a0_2 a0_3 a0_4)
theorem d3E.mono_l : ∀ k, (∀ y0 y1 y2 y3 y4 y5, LeO (d3E.j0 k y0 y1 y2 y3 y4 y5) (d3E.j0 (k + 1) y0 y1 y2 y3 y4 y5)) ∧ (∀ y0 y1 y2 y3 y4 y5 y6 y7 y8 y9 y10 y11 y12, LeO (d3E.j1 k y0 y1 y2 y3 y4 y5 y6 y7 y8 y9 y10 y11 y12) (d3E.j1 (k + 1) y0 y1 y2 y3 y4 y5 y6 y7 y8 y9 y10 y11 y12)) ∧ (∀ y0 y1 y2 y3 y4 y5 y6 y7 y8 y9 y10 y11 y12 y13 y14, LeO (d3E.j2 k y0 y1 y2 y3 y4 y5 y6 y7 y8 y9 y10 y11 y12 y13 y14) (d3E.j2 (k + 1) y0 y1 y2 y3 y4 y5 y6 y7 y8 y9 y10 y11 y12 y13 y14))
 | 0 => ⟨fun _ _ _ _ _ _ r h => by simp [d3E.j0] at h, fun _ _ _ _ _ _ _ _ _ _ _ _ _ r h => by simp [d3E.j1] at h, fun _ _ _ _ _ _ _ _ _ _ _ _ _ _ _ r h => by simp [d3E.j2] at h⟩
 | k + 1 => by
  obtain ⟨ih0, ih1, ih2⟩ := d3E.mono_l k
  refine ⟨?_, ?_, ?_⟩
  · intro y0 y1 y2 y3 y4 y5
    unfold d3E.j0
    repeat' first
    | (with_reducible exact ih0 _ _ _ _ _ _)
    | (with_reducible exact ih1 _ _ _ _ _ _ _ _ _ _ _ _ _)
    | (with_reducible exact ih2 _ _ _ _ _ _ _ _ _ _ _ _ _ _ _)
    | (with_reducible exact d2P.mono _ _ _)
    | (with_reducible exact d3O.mono _ _)
    | (with_reducible exact LeO.refl _)
    | (with_reducible exact LeO.none _)
    | (with_reducible refine LeO.ite ?_ ?_)
    | (with_reducible refine LeO.bind ?_ (fun _ => ?_))
    | exact ih0 _ _ _ _ _ _
    | exact ih1 _ _ _ _ _ _ _ _ _ _ _ _ _
    | exact ih2 _ _ _ _ _ _ _ _ _ _ _ _ _ _ _
    | exact d2P.mono _ _ _
    | exact d3O.mono _ _
    | exact LeO.none _
    | refine LeO.ite ?_ ?_
    | refine LeO.bind ?_ (fun _ => ?_)
  · intro y0 y1 y2 y3 y4 y5 y6 y7 y8 y9 y10 y11 y12
    unfold d3E.j1
    repeat' first
    | (with_reducible exact ih0 _ _ _ _ _ _)
    | (with_reducible exact ih1 _ _ _ _ _ _ _ _ _ _ _ _ _)
    | (with_reducible exact ih2 _ _ _ _ _ _ _ _ _ _ _ _ _ _ _)
    | (with_reducible exact d2P.mono _ _ _)
    | (with_reducible exact d3O.mono _ _)
    | (with_reducible exact LeO.refl _)
    | (with_reducible exact LeO.none _)
    | (with_reducible refine LeO.ite ?_ ?_)
    | (with_reducible refine LeO.bind ?_ (fun _ => ?_))
    | exact ih0 _ _ _ _ _ _
    | exact ih1 _ _ _ _ _ _ _ _ _ _ _ _ _
    | exact ih2 _ _ _ _ _ _ _ _ _ _ _ _ _ _ _
    | exact d2P.mono _ _ _
    | exact d3O.mono _ _
    | exact LeO.none _
    | refine LeO.ite ?_ ?_
    | refine LeO.bind ?_ (fun _ => ?_)
  · intro y0 y1 y2 y3 y4 y5 y6 y7 y8 y9 y10 y11 y12 y13 y14
    unfold d3E.j2
    repeat' first
    | (with_reducible exact ih0 _ _ _ _ _ _)
    | (with_reducible exact ih1 _ _ _ _ _ _ _ _ _ _ _ _ _)
    | (with_reducible exact ih2 _ _ _ _ _ _ _ _ _ _ _ _ _ _ _)
    | (with_reducible exact d2P.mono _ _ _)
    | (with_reducible exact d3O.mono _ _)
    | (with_reducible exact LeO.refl _)
    | (with_reducible exact LeO.none _)
    | (with_reducible refine LeO.ite ?_ ?_)
    | (with_reducible refine LeO.bind ?_ (fun _ => ?_))
    | exact ih0 _ _ _ _ _ _
    | exact ih1 _ _ _ _ _ _ _ _ _ _ _ _ _
    | exact ih2 _ _ _ _ _ _ _ _ _ _ _ _ _ _ _
    | exact d2P.mono _ _ _
    | exact d3O.mono _ _
    | exact LeO.none _
    | refine LeO.ite ?_ ?_
    | refine LeO.bind ?_ (fun _ => ?_)
theorem d3E.mono : ∀ a0 a1 a2 a3 a4 k, LeO (d3E.f k a0 a1 a2 a3 a4) (d3E.f (k + 1) a0 a1 a2 a3 a4) := by
 intro a0 a1 a2 a3 a4 k
 obtain ⟨ih0, ih1, ih2⟩ := d3E.mono_l k
 unfold d3E.f
 repeat' first
  | (with_reducible exact ih0 _ _ _ _ _ _)
  | (with_reducible exact ih1 _ _ _ _ _ _ _ _ _ _ _ _ _)
  | (with_reducible exact ih2 _ _ _ _ _ _ _ _ _ _ _ _ _ _ _)
  | (with_reducible exact d2P.mono _ _ _)
  | (with_reducible exact d3O.mono _ _)
  | (with_reducible exact LeO.refl _)
  | (with_reducible exact LeO.none _)
  | (with_reducible refine LeO.ite ?_ ?_)
  | (with_reducible refine LeO.bind ?_ (fun _ => ?_))
  | exact ih0 _ _ _ _ _ _
  | exact ih1 _ _ _ _ _ _ _ _ _ _ _ _ _
  | exact ih2 _ _ _ _ _ _ _ _ _ _ _ _ _ _ _
  | exact d2P.mono _ _ _
  | exact d3O.mono _ _
  | exact LeO.none _
  | refine LeO.ite ?_ ?_
  | refine LeO.bind ?_ (fun _ => ?_)
theorem lfxRsPintleref03Encode0 {P : Prop} (h : P := by
 simp only [Option.some.injEq, Prod.mk.injEq] at H
 obtain ⟨rfl, rfl⟩ := H
 obtain ⟨hcz_0, hcz_1, hcz_2, hcz_3, hcz_4, hfz_5, hfz_6, hfz_7, hfz_8, hfz_9⟩ := cz5 (w := wc) BK338.out
 go_wp2
 repeat (go_quiet (fail); try go_wp2)
 go_ret2
 exact ⟨m_3, m_17⟩) : P := h
theorem lfxRsPintleref03Encode1 {P : Prop} (h : P := by
 go_wp2
 repeat (go_quiet (fail); try go_wp2)
 go_ret2
 exact ⟨m_3, m_25⟩) : P := h
theorem lfxRsPintleref03Encode2 {P : Prop} (h : P := by
 simp only [Option.some.injEq, Prod.mk.injEq] at H
 obtain ⟨rfl, rfl⟩ := H
 have hnb_0 := NB347_338.out
 have hnc_1 := NB338_347.out
 obtain ⟨hcz_2, hcz_3, hcz_4, hcz_5, hcz_6, hcz_7, hcz_8, hfz_9, hfz_10, hfz_11, hfz_12, hfz_13, hfz_14, hfz_15⟩ := cz7 (w := wc) BK347.out
 obtain ⟨hcz_16, hcz_17, hcz_18, hcz_19, hcz_20, hfz_21, hfz_22, hfz_23, hfz_24, hfz_25⟩ := cz5 (w := wc) BK338.out
 exact lfxRsPintleref03Encode1) : P := h
set_option maxHeartbeats 8000000 in
set_option maxRecDepth 100000 in
theorem d3E.calls (k : Nat) (a0_0 : Int) (a0_1 : Int) (a0_2 : Int) (a0_3 : Int) (a0_4 : Int) (r1 : Int) (r2 : Bool) (w : World) (h : d3E.f k a0_0 a0_1 a0_2 a0_3 a0_4 = some (r1, r2)) :
 Calls Try.prog 31 #[.agg #[.int .i64 a0_0, .int .i64 a0_1, .int .i64 a0_2, .int .i64 a0_3, .int .i32 a0_4]] w fun e w' => e = .returned (.tuple #[.int .u32 r1, .bool r2]) ∧ Below w.heap.size w w' := by
 have hu32 := Try.underlying32
 have hu69 := Try.underlying69
 have HB := Aside0.mk (Below.refl w.heap.size w)
 have H : (if a0_0 = 47 then (d3E.j0 k true a0_0 a0_1 a0_2 a0_3 a0_4) else (d3E.j0 k (a0_0 == 48) a0_0 a0_1 a0_2 a0_3 a0_4)) = some (r1, r2) := h
 clear h
 have HC2 := Aside0.mk H
 clear H
 go_enter Try.func31, Try.ntmps31
 go_upto_region 1 with (first | ((with_reducible refine gate_dst (N := 1) rfl ?_); refine box_event ?hg (N := 1) ?hd (cs := #[.int .i64 a0_0, .int .i64 a0_1, .int .i64 a0_2, .int .i64 a0_3, .int .i32 a0_4]) (t := 32) ?hr ?_; (case hd => rfl); (case hg => rfl); (case hr => exact m_14); intro gb338 hg w3 hbox hb; have n0_ := Aside0.mk (below_step (m_0) hb); have n1_ := Aside0.mk (hbox); have n2_ := Aside0.mk ((m_21 : w.heap.size ≤ gb338)); have n3_ := Aside0.mk ((m_21 : w.heap.size ≤ gb338)); clear HB; have HB := n0_; have BK338 := n1_; have GW338 := n2_; have GE338 := n3_; clear n0_ n1_ n2_ n3_; clear hb hbox hg))
 repeat (go_quiet (first | ((with_reducible refine gate_dst (N := 1) rfl ?_); refine box_event ?hg (N := 1) ?hd (cs := #[.int .i64 a0_0, .int .i64 a0_1, .int .i64 a0_2, .int .i64 a0_3, .int .i32 a0_4]) (t := 32) ?hr ?_; (case hd => rfl); (case hg => rfl); (case hr => exact m_14); intro gb338 hg w3 hbox hb; have n0_ := Aside0.mk (below_step (m_0) hb); have n1_ := Aside0.mk (hbox); have n2_ := Aside0.mk ((m_21 : w.heap.size ≤ gb338)); have n3_ := Aside0.mk ((m_21 : w.heap.size ≤ gb338)); clear HB; have HB := n0_; have BK338 := n1_; have GW338 := n2_; have GE338 := n3_; clear n0_ n1_ n2_ n3_; clear hb hbox hg)); go_upto_region 1 with (first | ((with_reducible refine gate_dst (N := 1) rfl ?_); refine box_event ?hg (N := 1) ?hd (cs := #[.int .i64 a0_0, .int .i64 a0_1, .int .i64 a0_2, .int .i64 a0_3, .int .i32 a0_4]) (t := 32) ?hr ?_; (case hd => rfl); (case hg => rfl); (case hr => exact m_14); intro gb338 hg w3 hbox hb; have n0_ := Aside0.mk (below_step (m_0) hb); have n1_ := Aside0.mk (hbox); have n2_ := Aside0.mk ((m_21 : w.heap.size ≤ gb338)); have n3_ := Aside0.mk ((m_21 : w.heap.size ≤ gb338)); clear HB; have HB := n0_; have BK338 := n1_; have GW338 := n2_; have GE338 := n3_; clear n0_ n1_ n2_ n3_; clear hb hbox hg)))
 (try simp only [Act.put, List.setIfInBounds_toArray, List.set_cons_zero, List.set_cons_succ])
 go_cut [16] (fun v16 wc => ∃ (kq : Nat) (x16_1 : Bool), v16 = .bool x16_1 ∧ Aside0 (d3E.j0 kq x16_1 a0_0 a0_1 a0_2 a0_3 a0_4 = some (r1, r2)) ∧ Aside0 (kq ≤ k) ∧ Aside0 (wc.heap[gb338]? = some (.cells #[.int .i64 a0_0, .int .i64 a0_1, .int .i64 a0_2, .int .i64 a0_3, .int .i32 a0_4] 32 (0, 0))) ∧ Aside0 (Below w.heap.size w wc))
 case first =>
  have H := HC2.out
  clear HC2
  by_cases c4 : a0_0 = 47
  · rw [if_pos c4] at H
    have c4b0 : (a0_0 == 47) = true := beq_iff_eq.mpr c4
    have c4b1 : (a0_0 != 47) = false := bne_eq_false_iff_eq.mpr c4
    clear c4
    (first | rw [c4b0] | (simp only [i64_w, i32_w]; rw [c4b0]) | skip)
    have H' := Aside0.mk H
    clear H
    obtain ⟨hcz5_0, hcz5_1, hcz5_2, hcz5_3, hcz5_4, hfz5_0, hfz5_1, hfz5_2, hfz5_3, hfz5_4⟩ := cz5 (w := w3) BK338.out
    go_wp2
    repeat (go_quiet (fail); try go_wp2)
    go_meet
    case rel => exact ⟨_, (true), (m_5), H', ⟨m_45⟩, ⟨m_20⟩, ⟨m_17⟩⟩
  · rw [if_neg c4] at H
    have c4b0 : (a0_0 == 47) = false := beq_eq_false_iff_ne.mpr c4
    have c4b1 : (a0_0 != 47) = true := bne_iff_ne.mpr c4
    (first | rw [c4b0] | (simp only [i64_w, i32_w]; rw [c4b0]) | skip)
    have H' := Aside0.mk H
    clear H
    obtain ⟨hcz6_0, hcz6_1, hcz6_2, hcz6_3, hcz6_4, hfz6_0, hfz6_1, hfz6_2, hfz6_3, hfz6_4⟩ := cz5 (w := w3) BK338.out
    go_wp2
    repeat (go_quiet (fail); try go_wp2)
    go_meet
    case rel => exact ⟨_, ((a0_0 == 48)), (m_5), H', ⟨m_45⟩, ⟨m_20⟩, ⟨m_17⟩⟩
 case rest =>
  clear HC2
  obtain ⟨kq, x16_1, rfl, HA, HJ1, BK338, HB⟩ := hcut
  cases kq with
  | zero => exact absurd HA.out (by simp [d3E.j0])
  | succ kj1 =>
   have H := HA.out
   clear HA
   simp only [d3E.j0] at H
   by_cases c7 : x16_1 = true
   · subst c7
     have H1 : (if a0_1 = 0 then (if a0_2 = 0 then (if a0_3 = 0 then (if a0_4 = 0 then (some (115 + wrap64 (a0_0 - 47) % 4294967296 * 1048576 % 4294967296, true)) else (some (0, false))) else (some (0, false))) else (some (0, false))) else (some (0, false))) = some (r1, r2) := by rw [if_pos rfl] at H; exact H
     clear H
     have H := H1
     clear H1
     by_cases c8 : a0_1 = 0
     · rw [if_pos c8] at H
       have c8b0 : (a0_1 == 0) = true := beq_iff_eq.mpr c8
       have c8b1 : (a0_1 != 0) = false := bne_eq_false_iff_eq.mpr c8
       clear c8
       by_cases c9 : a0_2 = 0
       · rw [if_pos c9] at H
         have c9b0 : (a0_2 == 0) = true := beq_iff_eq.mpr c9
         have c9b1 : (a0_2 != 0) = false := bne_eq_false_iff_eq.mpr c9
         clear c9
         by_cases c10 : a0_3 = 0
         · rw [if_pos c10] at H
           have c10b0 : (a0_3 == 0) = true := beq_iff_eq.mpr c10
           have c10b1 : (a0_3 != 0) = false := bne_eq_false_iff_eq.mpr c10
           clear c10
           by_cases c11 : a0_4 = 0
           · rw [if_pos c11] at H
             have c11b0 : (a0_4 == 0) = true := beq_iff_eq.mpr c11
             have c11b1 : (a0_4 != 0) = false := bne_eq_false_iff_eq.mpr c11
             clear c11
             exact lfxRsPintleref03Encode0
           · rw [if_neg c11] at H
             have c11b0 : (a0_4 == 0) = false := beq_eq_false_iff_ne.mpr c11
             have c11b1 : (a0_4 != 0) = true := bne_iff_ne.mpr c11
             exact lfxRsPintleref03Encode0
         · rw [if_neg c10] at H
           have c10b0 : (a0_3 == 0) = false := beq_eq_false_iff_ne.mpr c10
           have c10b1 : (a0_3 != 0) = true := bne_iff_ne.mpr c10
           exact lfxRsPintleref03Encode0
       · rw [if_neg c9] at H
         have c9b0 : (a0_2 == 0) = false := beq_eq_false_iff_ne.mpr c9
         have c9b1 : (a0_2 != 0) = true := bne_iff_ne.mpr c9
         exact lfxRsPintleref03Encode0
     · rw [if_neg c8] at H
       have c8b0 : (a0_1 == 0) = false := beq_eq_false_iff_ne.mpr c8
       have c8b1 : (a0_1 != 0) = true := bne_iff_ne.mpr c8
       exact lfxRsPintleref03Encode0
   · replace c7 := Bool.eq_false_iff.mpr c7
     subst c7
     have H1 : ((d3O.f kj1 a0_0).bind fun bt339 => (if bt339.2.2.2.2.2.2.2 = true then ((d3r.f a0_1 bt339.2.2.2.2.1).bind fun t348 => (if t348 = true then ((d3r.f a0_2 bt339.2.2.2.2.2.1).bind fun t349 => (if t349 = true then ((d3r.f a0_3 bt339.2.2.2.2.2.2.1).bind fun t350 => (d3E.j1 kj1 (!t350) a0_0 a0_1 a0_2 a0_3 a0_4 bt339.1 bt339.2.1 bt339.2.2.1 bt339.2.2.2.1 bt339.2.2.2.2.1 bt339.2.2.2.2.2.1 bt339.2.2.2.2.2.2.1)) else (d3E.j1 kj1 true a0_0 a0_1 a0_2 a0_3 a0_4 bt339.1 bt339.2.1 bt339.2.2.1 bt339.2.2.2.1 bt339.2.2.2.2.1 bt339.2.2.2.2.2.1 bt339.2.2.2.2.2.2.1))) else (d3E.j1 kj1 true a0_0 a0_1 a0_2 a0_3 a0_4 bt339.1 bt339.2.1 bt339.2.2.1 bt339.2.2.2.1 bt339.2.2.2.2.1 bt339.2.2.2.2.2.1 bt339.2.2.2.2.2.2.1))) else (d3E.j1 kj1 true a0_0 a0_1 a0_2 a0_3 a0_4 bt339.1 bt339.2.1 bt339.2.2.1 bt339.2.2.2.1 bt339.2.2.2.2.1 bt339.2.2.2.2.2.1 bt339.2.2.2.2.2.2.1))) = some (r1, r2) := by rw [if_neg (show ¬ (false = true) by decide)] at H; exact H
     clear H
     have H := H1
     clear H1
     replace H := Option.bind_eq_some_iff.mp H
     obtain ⟨⟨t339, t340, t341, t342, t343, t344, t345, t346⟩, A170, H⟩ := H
     replace H : (if t346 = true then ((d3r.f a0_1 t343).bind fun t348 => (if t348 = true then ((d3r.f a0_2 t344).bind fun t349 => (if t349 = true then ((d3r.f a0_3 t345).bind fun t350 => (d3E.j1 kj1 (!t350) a0_0 a0_1 a0_2 a0_3 a0_4 t339 t340 t341 t342 t343 t344 t345)) else (d3E.j1 kj1 true a0_0 a0_1 a0_2 a0_3 a0_4 t339 t340 t341 t342 t343 t344 t345))) else (d3E.j1 kj1 true a0_0 a0_1 a0_2 a0_3 a0_4 t339 t340 t341 t342 t343 t344 t345))) else (d3E.j1 kj1 true a0_0 a0_1 a0_2 a0_3 a0_4 t339 t340 t341 t342 t343 t344 t345)) = some (r1, r2) := H
     have A17 := Aside0.mk A170
     clear A170
     have HC18 := Aside0.mk H
     clear H
     obtain ⟨hcz19_0, hcz19_1, hcz19_2, hcz19_3, hcz19_4, hfz19_0, hfz19_1, hfz19_2, hfz19_3, hfz19_4⟩ := cz5 (w := wc) BK338.out
     go_upto_region 6 with (first | (go_at_call 29; (with_reducible refine (d3O.calls kj1 a0_0 t339 t340 t341 t342 t343 t344 t345 t346 _ A17.out).mono ?_); rintro e w20 ⟨rfl, hb⟩; have n0_ := Aside0.mk (blk_below (g := gb338) (o := .cells #[.int .i64 a0_0, .int .i64 a0_1, .int .i64 a0_2, .int .i64 a0_3, .int .i32 a0_4] 32 (0, 0)) (m_20) hb); have n1_ := Aside0.mk (below_step (m_17) hb); clear BK338; clear HB; have BK338 := n0_; have HB := n1_; clear n0_ n1_; (try clear hb); (try clear hb2); (try clear hk); (try clear hi)) | ((with_reducible refine gate_dst (N := 4) rfl ?_); refine box_event ?hg (N := 4) ?hd (cs := #[.int .u32 0, .int .u32 0, .int .u32 0, .int .i64 0, .bool false, .bool false, .bool false]) (t := 69) ?hr ?_; (case hd => rfl); (case hg => rfl); (case hr => exact m_14); intro gb347 hg w21 hbox hb; have n0_ := Aside0.mk (blk_below (g := gb338) (o := .cells #[.int .i64 a0_0, .int .i64 a0_1, .int .i64 a0_2, .int .i64 a0_3, .int .i32 a0_4] 32 (0, 0)) (m_20) hb); have n1_ := Aside0.mk (below_step (m_17) hb); have n2_ := Aside0.mk (hbox); have n3_ := Aside0.mk ((by rw [hg]; exact (below_size (m_17)) : w.heap.size ≤ gb347)); have n4_ := Aside0.mk ((by rw [hg]; exact (below_size (m_17)) : w.heap.size ≤ gb347)); have n5_ := Aside0.mk ((m_69 : gb338 ≠ gb347)); have n6_ := Aside0.mk ((m_70 : gb347 ≠ gb338)); clear BK338; clear HB; have BK338 := n0_; have HB := n1_; have BK347 := n2_; have GW347 := n3_; have GE347 := n4_; have NB338_347 := n5_; have NB347_338 := n6_; clear n0_ n1_ n2_ n3_ n4_ n5_ n6_; clear hb hbox hg; have hnb22 := NB347_338.out; have hnc22 := NB338_347.out; obtain ⟨hcz23_0, hcz23_1, hcz23_2, hcz23_3, hcz23_4, hcz23_5, hcz23_6, hfz23_0, hfz23_1, hfz23_2, hfz23_3, hfz23_4, hfz23_5, hfz23_6⟩ := cz7 (w := w21) BK347.out))
     repeat (go_quiet (first | (go_at_call 29; (with_reducible refine (d3O.calls kj1 a0_0 t339 t340 t341 t342 t343 t344 t345 t346 _ A17.out).mono ?_); rintro e w20 ⟨rfl, hb⟩; have n0_ := Aside0.mk (blk_below (g := gb338) (o := .cells #[.int .i64 a0_0, .int .i64 a0_1, .int .i64 a0_2, .int .i64 a0_3, .int .i32 a0_4] 32 (0, 0)) (m_20) hb); have n1_ := Aside0.mk (below_step (m_17) hb); clear BK338; clear HB; have BK338 := n0_; have HB := n1_; clear n0_ n1_; (try clear hb); (try clear hb2); (try clear hk); (try clear hi)) | ((with_reducible refine gate_dst (N := 4) rfl ?_); refine box_event ?hg (N := 4) ?hd (cs := #[.int .u32 0, .int .u32 0, .int .u32 0, .int .i64 0, .bool false, .bool false, .bool false]) (t := 69) ?hr ?_; (case hd => rfl); (case hg => rfl); (case hr => exact m_14); intro gb347 hg w21 hbox hb; have n0_ := Aside0.mk (blk_below (g := gb338) (o := .cells #[.int .i64 a0_0, .int .i64 a0_1, .int .i64 a0_2, .int .i64 a0_3, .int .i32 a0_4] 32 (0, 0)) (m_20) hb); have n1_ := Aside0.mk (below_step (m_17) hb); have n2_ := Aside0.mk (hbox); have n3_ := Aside0.mk ((by rw [hg]; exact (below_size (m_17)) : w.heap.size ≤ gb347)); have n4_ := Aside0.mk ((by rw [hg]; exact (below_size (m_17)) : w.heap.size ≤ gb347)); have n5_ := Aside0.mk ((m_69 : gb338 ≠ gb347)); have n6_ := Aside0.mk ((m_70 : gb347 ≠ gb338)); clear BK338; clear HB; have BK338 := n0_; have HB := n1_; have BK347 := n2_; have GW347 := n3_; have GE347 := n4_; have NB338_347 := n5_; have NB347_338 := n6_; clear n0_ n1_ n2_ n3_ n4_ n5_ n6_; clear hb hbox hg; have hnb22 := NB347_338.out; have hnc22 := NB338_347.out; obtain ⟨hcz23_0, hcz23_1, hcz23_2, hcz23_3, hcz23_4, hcz23_5, hcz23_6, hfz23_0, hfz23_1, hfz23_2, hfz23_3, hfz23_4, hfz23_5, hfz23_6⟩ := cz7 (w := w21) BK347.out)); go_upto_region 6 with (first | (go_at_call 29; (with_reducible refine (d3O.calls kj1 a0_0 t339 t340 t341 t342 t343 t344 t345 t346 _ A17.out).mono ?_); rintro e w20 ⟨rfl, hb⟩; have n0_ := Aside0.mk (blk_below (g := gb338) (o := .cells #[.int .i64 a0_0, .int .i64 a0_1, .int .i64 a0_2, .int .i64 a0_3, .int .i32 a0_4] 32 (0, 0)) (m_20) hb); have n1_ := Aside0.mk (below_step (m_17) hb); clear BK338; clear HB; have BK338 := n0_; have HB := n1_; clear n0_ n1_; (try clear hb); (try clear hb2); (try clear hk); (try clear hi)) | ((with_reducible refine gate_dst (N := 4) rfl ?_); refine box_event ?hg (N := 4) ?hd (cs := #[.int .u32 0, .int .u32 0, .int .u32 0, .int .i64 0, .bool false, .bool false, .bool false]) (t := 69) ?hr ?_; (case hd => rfl); (case hg => rfl); (case hr => exact m_14); intro gb347 hg w21 hbox hb; have n0_ := Aside0.mk (blk_below (g := gb338) (o := .cells #[.int .i64 a0_0, .int .i64 a0_1, .int .i64 a0_2, .int .i64 a0_3, .int .i32 a0_4] 32 (0, 0)) (m_20) hb); have n1_ := Aside0.mk (below_step (m_17) hb); have n2_ := Aside0.mk (hbox); have n3_ := Aside0.mk ((by rw [hg]; exact (below_size (m_17)) : w.heap.size ≤ gb347)); have n4_ := Aside0.mk ((by rw [hg]; exact (below_size (m_17)) : w.heap.size ≤ gb347)); have n5_ := Aside0.mk ((m_69 : gb338 ≠ gb347)); have n6_ := Aside0.mk ((m_70 : gb347 ≠ gb338)); clear BK338; clear HB; have BK338 := n0_; have HB := n1_; have BK347 := n2_; have GW347 := n3_; have GE347 := n4_; have NB338_347 := n5_; have NB347_338 := n6_; clear n0_ n1_ n2_ n3_ n4_ n5_ n6_; clear hb hbox hg; have hnb22 := NB347_338.out; have hnc22 := NB338_347.out; obtain ⟨hcz23_0, hcz23_1, hcz23_2, hcz23_3, hcz23_4, hcz23_5, hcz23_6, hfz23_0, hfz23_1, hfz23_2, hfz23_3, hfz23_4, hfz23_5, hfz23_6⟩ := cz7 (w := w21) BK347.out)))
     (try simp only [Act.put, List.setIfInBounds_toArray, List.set_cons_zero, List.set_cons_succ])
     go_cut [72] (fun v72 wc => ∃ (kq : Nat) (x72_17 : Bool), v72 = .bool x72_17 ∧ Aside0 (d3E.j1 kq x72_17 a0_0 a0_1 a0_2 a0_3 a0_4 t339 t340 t341 t342 t343 t344 t345 = some (r1, r2)) ∧ Aside0 (kq ≤ kj1) ∧ Aside0 (wc.heap[gb338]? = some (.cells #[.int .i64 a0_0, .int .i64 a0_1, .int .i64 a0_2, .int .i64 a0_3, .int .i32 a0_4] 32 (0, 0))) ∧ Aside0 (wc.heap[gb347]? = some (.cells #[.int .u32 t339, .int .u32 t340, .int .u32 t341, .int .i64 t342, .bool t343, .bool t344, .bool t345] 69 (0, 0))) ∧ Aside0 (Below w.heap.size w wc))
     case first =>
      have H := HC18.out
      clear HC18
      by_cases c24 : t346 = true
      · subst c24
        have H1 : ((d3r.f a0_1 t343).bind fun t348 => (if t348 = true then ((d3r.f a0_2 t344).bind fun t349 => (if t349 = true then ((d3r.f a0_3 t345).bind fun t350 => (d3E.j1 kj1 (!t350) a0_0 a0_1 a0_2 a0_3 a0_4 t339 t340 t341 t342 t343 t344 t345)) else (d3E.j1 kj1 true a0_0 a0_1 a0_2 a0_3 a0_4 t339 t340 t341 t342 t343 t344 t345))) else (d3E.j1 kj1 true a0_0 a0_1 a0_2 a0_3 a0_4 t339 t340 t341 t342 t343 t344 t345))) = some (r1, r2) := by rw [if_pos rfl] at H; exact H
        clear H
        have H := H1
        clear H1
        replace H := Option.bind_eq_some_iff.mp H
        obtain ⟨t348, A250, H⟩ := H
        replace H : (if t348 = true then ((d3r.f a0_2 t344).bind fun t349 => (if t349 = true then ((d3r.f a0_3 t345).bind fun t350 => (d3E.j1 kj1 (!t350) a0_0 a0_1 a0_2 a0_3 a0_4 t339 t340 t341 t342 t343 t344 t345)) else (d3E.j1 kj1 true a0_0 a0_1 a0_2 a0_3 a0_4 t339 t340 t341 t342 t343 t344 t345))) else (d3E.j1 kj1 true a0_0 a0_1 a0_2 a0_3 a0_4 t339 t340 t341 t342 t343 t344 t345)) = some (r1, r2) := H
        have A25 := Aside0.mk A250
        clear A250
        by_cases c26 : t348 = true
        · subst c26
          have H1 : ((d3r.f a0_2 t344).bind fun t349 => (if t349 = true then ((d3r.f a0_3 t345).bind fun t350 => (d3E.j1 kj1 (!t350) a0_0 a0_1 a0_2 a0_3 a0_4 t339 t340 t341 t342 t343 t344 t345)) else (d3E.j1 kj1 true a0_0 a0_1 a0_2 a0_3 a0_4 t339 t340 t341 t342 t343 t344 t345))) = some (r1, r2) := by rw [if_pos rfl] at H; exact H
          clear H
          have H := H1
          clear H1
          replace H := Option.bind_eq_some_iff.mp H
          obtain ⟨t349, A270, H⟩ := H
          replace H : (if t349 = true then ((d3r.f a0_3 t345).bind fun t350 => (d3E.j1 kj1 (!t350) a0_0 a0_1 a0_2 a0_3 a0_4 t339 t340 t341 t342 t343 t344 t345)) else (d3E.j1 kj1 true a0_0 a0_1 a0_2 a0_3 a0_4 t339 t340 t341 t342 t343 t344 t345)) = some (r1, r2) := H
          have A27 := Aside0.mk A270
          clear A270
          by_cases c28 : t349 = true
          · subst c28
            have H1 : ((d3r.f a0_3 t345).bind fun t350 => (d3E.j1 kj1 (!t350) a0_0 a0_1 a0_2 a0_3 a0_4 t339 t340 t341 t342 t343 t344 t345)) = some (r1, r2) := by rw [if_pos rfl] at H; exact H
            clear H
            have H := H1
            clear H1
            replace H := Option.bind_eq_some_iff.mp H
            obtain ⟨t350, A290, H⟩ := H
            replace H : (d3E.j1 kj1 (!t350) a0_0 a0_1 a0_2 a0_3 a0_4 t339 t340 t341 t342 t343 t344 t345) = some (r1, r2) := H
            have A29 := Aside0.mk A290
            clear A290
            have H' := Aside0.mk H
            clear H
            have hnb30 := NB338_347.out
            have hnc30 := NB347_338.out
            obtain ⟨hcz31_0, hcz31_1, hcz31_2, hcz31_3, hcz31_4, hfz31_0, hfz31_1, hfz31_2, hfz31_3, hfz31_4⟩ := cz5 (w := w21) BK338.out
            obtain ⟨hcz32_0, hcz32_1, hcz32_2, hcz32_3, hcz32_4, hcz32_5, hcz32_6, hfz32_0, hfz32_1, hfz32_2, hfz32_3, hfz32_4, hfz32_5, hfz32_6⟩ := cz7 (w := w21) BK347.out
            go_wp2_with (first | (go_at_call 43; (with_reducible refine (d3r.calls a0_1 t343 true _ A25.out).mono ?_); rintro e w' ⟨rfl, ⟨nd, rfl⟩⟩; (try first | exact ⟨rfl, _, World.drewN_drewN _ _ _⟩ | exact ⟨rfl, _, Eq.trans (World.drewN_drewN _ _ _) (congrArg (World.drewN _) (Nat.add_assoc _ _ _))⟩)) | (go_at_call 43; (with_reducible refine (d3r.calls a0_2 t344 true _ A27.out).mono ?_); rintro e w' ⟨rfl, ⟨nd, rfl⟩⟩; (try first | exact ⟨rfl, _, World.drewN_drewN _ _ _⟩ | exact ⟨rfl, _, Eq.trans (World.drewN_drewN _ _ _) (congrArg (World.drewN _) (Nat.add_assoc _ _ _))⟩)) | (go_at_call 43; (with_reducible refine (d3r.calls a0_3 t345 t350 _ A29.out).mono ?_); rintro e w' ⟨rfl, ⟨nd, rfl⟩⟩; (try first | exact ⟨rfl, _, World.drewN_drewN _ _ _⟩ | exact ⟨rfl, _, Eq.trans (World.drewN_drewN _ _ _) (congrArg (World.drewN _) (Nat.add_assoc _ _ _))⟩)))
            repeat (go_quiet (first | (go_at_call 43; (with_reducible refine (d3r.calls a0_1 t343 true _ A25.out).mono ?_); rintro e w' ⟨rfl, ⟨nd, rfl⟩⟩; (try first | exact ⟨rfl, _, World.drewN_drewN _ _ _⟩ | exact ⟨rfl, _, Eq.trans (World.drewN_drewN _ _ _) (congrArg (World.drewN _) (Nat.add_assoc _ _ _))⟩)) | (go_at_call 43; (with_reducible refine (d3r.calls a0_2 t344 true _ A27.out).mono ?_); rintro e w' ⟨rfl, ⟨nd, rfl⟩⟩; (try first | exact ⟨rfl, _, World.drewN_drewN _ _ _⟩ | exact ⟨rfl, _, Eq.trans (World.drewN_drewN _ _ _) (congrArg (World.drewN _) (Nat.add_assoc _ _ _))⟩)) | (go_at_call 43; (with_reducible refine (d3r.calls a0_3 t345 t350 _ A29.out).mono ?_); rintro e w' ⟨rfl, ⟨nd, rfl⟩⟩; (try first | exact ⟨rfl, _, World.drewN_drewN _ _ _⟩ | exact ⟨rfl, _, Eq.trans (World.drewN_drewN _ _ _) (congrArg (World.drewN _) (Nat.add_assoc _ _ _))⟩))); try go_wp2_with (first | (go_at_call 43; (with_reducible refine (d3r.calls a0_1 t343 true _ A25.out).mono ?_); rintro e w' ⟨rfl, ⟨nd, rfl⟩⟩; (try first | exact ⟨rfl, _, World.drewN_drewN _ _ _⟩ | exact ⟨rfl, _, Eq.trans (World.drewN_drewN _ _ _) (congrArg (World.drewN _) (Nat.add_assoc _ _ _))⟩)) | (go_at_call 43; (with_reducible refine (d3r.calls a0_2 t344 true _ A27.out).mono ?_); rintro e w' ⟨rfl, ⟨nd, rfl⟩⟩; (try first | exact ⟨rfl, _, World.drewN_drewN _ _ _⟩ | exact ⟨rfl, _, Eq.trans (World.drewN_drewN _ _ _) (congrArg (World.drewN _) (Nat.add_assoc _ _ _))⟩)) | (go_at_call 43; (with_reducible refine (d3r.calls a0_3 t345 t350 _ A29.out).mono ?_); rintro e w' ⟨rfl, ⟨nd, rfl⟩⟩; (try first | exact ⟨rfl, _, World.drewN_drewN _ _ _⟩ | exact ⟨rfl, _, Eq.trans (World.drewN_drewN _ _ _) (congrArg (World.drewN _) (Nat.add_assoc _ _ _))⟩))))
            go_meet
            case rel => exact ⟨_, (!t350), (m_5), H', ⟨by have := HJ1.out; first | omega | exact Nat.le_refl _⟩, ⟨m_13⟩, ⟨m_6⟩, ⟨m_25⟩⟩
          · replace c28 := Bool.eq_false_iff.mpr c28
            subst c28
            have H1 : (d3E.j1 kj1 true a0_0 a0_1 a0_2 a0_3 a0_4 t339 t340 t341 t342 t343 t344 t345) = some (r1, r2) := by rw [if_neg (show ¬ (false = true) by decide)] at H; exact H
            clear H
            have H := H1
            clear H1
            have H' := Aside0.mk H
            clear H
            have hnb33 := NB338_347.out
            have hnc33 := NB347_338.out
            obtain ⟨hcz34_0, hcz34_1, hcz34_2, hcz34_3, hcz34_4, hfz34_0, hfz34_1, hfz34_2, hfz34_3, hfz34_4⟩ := cz5 (w := w21) BK338.out
            obtain ⟨hcz35_0, hcz35_1, hcz35_2, hcz35_3, hcz35_4, hcz35_5, hcz35_6, hfz35_0, hfz35_1, hfz35_2, hfz35_3, hfz35_4, hfz35_5, hfz35_6⟩ := cz7 (w := w21) BK347.out
            go_wp2_with (first | (go_at_call 43; (with_reducible refine (d3r.calls a0_1 t343 true _ A25.out).mono ?_); rintro e w' ⟨rfl, ⟨nd, rfl⟩⟩; (try first | exact ⟨rfl, _, World.drewN_drewN _ _ _⟩ | exact ⟨rfl, _, Eq.trans (World.drewN_drewN _ _ _) (congrArg (World.drewN _) (Nat.add_assoc _ _ _))⟩)) | (go_at_call 43; (with_reducible refine (d3r.calls a0_2 t344 false _ A27.out).mono ?_); rintro e w' ⟨rfl, ⟨nd, rfl⟩⟩; (try first | exact ⟨rfl, _, World.drewN_drewN _ _ _⟩ | exact ⟨rfl, _, Eq.trans (World.drewN_drewN _ _ _) (congrArg (World.drewN _) (Nat.add_assoc _ _ _))⟩)))
            repeat (go_quiet (first | (go_at_call 43; (with_reducible refine (d3r.calls a0_1 t343 true _ A25.out).mono ?_); rintro e w' ⟨rfl, ⟨nd, rfl⟩⟩; (try first | exact ⟨rfl, _, World.drewN_drewN _ _ _⟩ | exact ⟨rfl, _, Eq.trans (World.drewN_drewN _ _ _) (congrArg (World.drewN _) (Nat.add_assoc _ _ _))⟩)) | (go_at_call 43; (with_reducible refine (d3r.calls a0_2 t344 false _ A27.out).mono ?_); rintro e w' ⟨rfl, ⟨nd, rfl⟩⟩; (try first | exact ⟨rfl, _, World.drewN_drewN _ _ _⟩ | exact ⟨rfl, _, Eq.trans (World.drewN_drewN _ _ _) (congrArg (World.drewN _) (Nat.add_assoc _ _ _))⟩))); try go_wp2_with (first | (go_at_call 43; (with_reducible refine (d3r.calls a0_1 t343 true _ A25.out).mono ?_); rintro e w' ⟨rfl, ⟨nd, rfl⟩⟩; (try first | exact ⟨rfl, _, World.drewN_drewN _ _ _⟩ | exact ⟨rfl, _, Eq.trans (World.drewN_drewN _ _ _) (congrArg (World.drewN _) (Nat.add_assoc _ _ _))⟩)) | (go_at_call 43; (with_reducible refine (d3r.calls a0_2 t344 false _ A27.out).mono ?_); rintro e w' ⟨rfl, ⟨nd, rfl⟩⟩; (try first | exact ⟨rfl, _, World.drewN_drewN _ _ _⟩ | exact ⟨rfl, _, Eq.trans (World.drewN_drewN _ _ _) (congrArg (World.drewN _) (Nat.add_assoc _ _ _))⟩))))
            go_meet
            case rel => exact ⟨_, (true), (m_5), H', ⟨by have := HJ1.out; first | omega | exact Nat.le_refl _⟩, ⟨m_13⟩, ⟨m_6⟩, ⟨m_25⟩⟩
        · replace c26 := Bool.eq_false_iff.mpr c26
          subst c26
          have H1 : (d3E.j1 kj1 true a0_0 a0_1 a0_2 a0_3 a0_4 t339 t340 t341 t342 t343 t344 t345) = some (r1, r2) := by rw [if_neg (show ¬ (false = true) by decide)] at H; exact H
          clear H
          have H := H1
          clear H1
          have H' := Aside0.mk H
          clear H
          have hnb36 := NB338_347.out
          have hnc36 := NB347_338.out
          obtain ⟨hcz37_0, hcz37_1, hcz37_2, hcz37_3, hcz37_4, hfz37_0, hfz37_1, hfz37_2, hfz37_3, hfz37_4⟩ := cz5 (w := w21) BK338.out
          obtain ⟨hcz38_0, hcz38_1, hcz38_2, hcz38_3, hcz38_4, hcz38_5, hcz38_6, hfz38_0, hfz38_1, hfz38_2, hfz38_3, hfz38_4, hfz38_5, hfz38_6⟩ := cz7 (w := w21) BK347.out
          go_wp2_with (first | (go_at_call 43; (with_reducible refine (d3r.calls a0_1 t343 false _ A25.out).mono ?_); rintro e w' ⟨rfl, ⟨nd, rfl⟩⟩; (try first | exact ⟨rfl, _, World.drewN_drewN _ _ _⟩ | exact ⟨rfl, _, Eq.trans (World.drewN_drewN _ _ _) (congrArg (World.drewN _) (Nat.add_assoc _ _ _))⟩)))
          repeat (go_quiet (first | (go_at_call 43; (with_reducible refine (d3r.calls a0_1 t343 false _ A25.out).mono ?_); rintro e w' ⟨rfl, ⟨nd, rfl⟩⟩; (try first | exact ⟨rfl, _, World.drewN_drewN _ _ _⟩ | exact ⟨rfl, _, Eq.trans (World.drewN_drewN _ _ _) (congrArg (World.drewN _) (Nat.add_assoc _ _ _))⟩))); try go_wp2_with (first | (go_at_call 43; (with_reducible refine (d3r.calls a0_1 t343 false _ A25.out).mono ?_); rintro e w' ⟨rfl, ⟨nd, rfl⟩⟩; (try first | exact ⟨rfl, _, World.drewN_drewN _ _ _⟩ | exact ⟨rfl, _, Eq.trans (World.drewN_drewN _ _ _) (congrArg (World.drewN _) (Nat.add_assoc _ _ _))⟩))))
          go_meet
          case rel => exact ⟨_, (true), (m_5), H', ⟨by have := HJ1.out; first | omega | exact Nat.le_refl _⟩, ⟨m_13⟩, ⟨m_6⟩, ⟨m_25⟩⟩
      · replace c24 := Bool.eq_false_iff.mpr c24
        subst c24
        have H1 : (d3E.j1 kj1 true a0_0 a0_1 a0_2 a0_3 a0_4 t339 t340 t341 t342 t343 t344 t345) = some (r1, r2) := by rw [if_neg (show ¬ (false = true) by decide)] at H; exact H
        clear H
        have H := H1
        clear H1
        have H' := Aside0.mk H
        clear H
        go_wp2
        repeat (go_quiet (fail); try go_wp2)
        go_meet
        case rel => exact ⟨_, (true), (m_5), H', ⟨by have := HJ1.out; first | omega | exact Nat.le_refl _⟩, ⟨m_13⟩, ⟨m_6⟩, ⟨m_25⟩⟩
     case rest =>
      clear HC18
      obtain ⟨kq, x72_17, rfl, HA, HJ17, BK338, BK347, HB⟩ := hcut
      cases kq with
      | zero => exact absurd HA.out (by simp [d3E.j1])
      | succ kj17 =>
       have H := HA.out
       clear HA
       simp only [d3E.j1] at H
       by_cases c39 : x72_17 = true
       · subst c39
         have H1 : (some (0, false)) = some (r1, r2) := by rw [if_pos rfl] at H; exact H
         clear H
         have H := H1
         clear H1
         simp only [Option.some.injEq, Prod.mk.injEq] at H
         obtain ⟨rfl, rfl⟩ := H
         exact lfxRsPintleref03Encode1
       · replace c39 := Bool.eq_false_iff.mpr c39
         subst c39
         have H1 : ((d2P.f kj17 t342 a0_4).bind fun bt351 => (if t342 = 0 then (d3E.j2 kj17 ((((((((((t339 + ((t340 * 4096) % 4294967296)) % 4294967296) + ((t341 * 33554432) % 4294967296)) % 4294967296) + ((((a0_1) % 4294967296) * 128) % 4294967296)) % 4294967296) + ((((a0_2) % 4294967296) * 32768) % 4294967296)) % 4294967296) + ((((a0_3) % 4294967296) * 1048576) % 4294967296)) % 4294967296) 0 (a0_4 == 0) a0_0 a0_1 a0_2 a0_3 a0_4 t339 t340 t341 t342 t343 t344 t345) else (d3E.j2 kj17 ((((((((((t339 + ((t340 * 4096) % 4294967296)) % 4294967296) + ((t341 * 33554432) % 4294967296)) % 4294967296) + ((((a0_1) % 4294967296) * 128) % 4294967296)) % 4294967296) + ((((a0_2) % 4294967296) * 32768) % 4294967296)) % 4294967296) + ((((a0_3) % 4294967296) * 1048576) % 4294967296)) % 4294967296) bt351.1 bt351.2 a0_0 a0_1 a0_2 a0_3 a0_4 t339 t340 t341 t342 t343 t344 t345))) = some (r1, r2) := by rw [if_neg (show ¬ (false = true) by decide)] at H; exact H
         clear H
         have H := H1
         clear H1
         replace H := Option.bind_eq_some_iff.mp H
         obtain ⟨⟨t351, t352⟩, A400, H⟩ := H
         replace H : (if t342 = 0 then (d3E.j2 kj17 ((((((((((t339 + ((t340 * 4096) % 4294967296)) % 4294967296) + ((t341 * 33554432) % 4294967296)) % 4294967296) + ((((a0_1) % 4294967296) * 128) % 4294967296)) % 4294967296) + ((((a0_2) % 4294967296) * 32768) % 4294967296)) % 4294967296) + ((((a0_3) % 4294967296) * 1048576) % 4294967296)) % 4294967296) 0 (a0_4 == 0) a0_0 a0_1 a0_2 a0_3 a0_4 t339 t340 t341 t342 t343 t344 t345) else (d3E.j2 kj17 ((((((((((t339 + ((t340 * 4096) % 4294967296)) % 4294967296) + ((t341 * 33554432) % 4294967296)) % 4294967296) + ((((a0_1) % 4294967296) * 128) % 4294967296)) % 4294967296) + ((((a0_2) % 4294967296) * 32768) % 4294967296)) % 4294967296) + ((((a0_3) % 4294967296) * 1048576) % 4294967296)) % 4294967296) t351 t352 a0_0 a0_1 a0_2 a0_3 a0_4 t339 t340 t341 t342 t343 t344 t345)) = some (r1, r2) := H
         have A40 := Aside0.mk A400
         clear A400
         have HC41 := Aside0.mk H
         clear H
         have hnb42 := NB347_338.out
         have hnc42 := NB338_347.out
         obtain ⟨hcz43_0, hcz43_1, hcz43_2, hcz43_3, hcz43_4, hcz43_5, hcz43_6, hfz43_0, hfz43_1, hfz43_2, hfz43_3, hfz43_4, hfz43_5, hfz43_6⟩ := cz7 (w := wc) BK347.out
         obtain ⟨hcz44_0, hcz44_1, hcz44_2, hcz44_3, hcz44_4, hfz44_0, hfz44_1, hfz44_2, hfz44_3, hfz44_4⟩ := cz5 (w := wc) BK338.out
         go_upto_if 108 with (first | (go_at_call 44; (with_reducible refine (d2P.calls kj17 t342 a0_4 t351 t352 _ A40.out).mono ?_); rintro e w45 ⟨rfl, hb⟩; have n0_ := Aside0.mk (blk_below (g := gb338) (o := .cells #[.int .i64 a0_0, .int .i64 a0_1, .int .i64 a0_2, .int .i64 a0_3, .int .i32 a0_4] 32 (0, 0)) (m_20) hb); have n1_ := Aside0.mk (blk_below (g := gb347) (o := .cells #[.int .u32 t339, .int .u32 t340, .int .u32 t341, .int .i64 t342, .bool t343, .bool t344, .bool t345] 69 (0, 0)) (m_50) hb); have n2_ := Aside0.mk (below_step (m_25) hb); clear BK338; clear BK347; clear HB; have BK338 := n0_; have BK347 := n1_; have HB := n2_; clear n0_ n1_ n2_; (try clear hb); (try clear hb2); (try clear hk); (try clear hi); obtain ⟨hcz46_0, hcz46_1, hcz46_2, hcz46_3, hcz46_4, hcz46_5, hcz46_6, hfz46_0, hfz46_1, hfz46_2, hfz46_3, hfz46_4, hfz46_5, hfz46_6⟩ := cz7 (w := w45) BK347.out))
         repeat (go_quiet (first | (go_at_call 44; (with_reducible refine (d2P.calls kj17 t342 a0_4 t351 t352 _ A40.out).mono ?_); rintro e w45 ⟨rfl, hb⟩; have n0_ := Aside0.mk (blk_below (g := gb338) (o := .cells #[.int .i64 a0_0, .int .i64 a0_1, .int .i64 a0_2, .int .i64 a0_3, .int .i32 a0_4] 32 (0, 0)) (m_20) hb); have n1_ := Aside0.mk (blk_below (g := gb347) (o := .cells #[.int .u32 t339, .int .u32 t340, .int .u32 t341, .int .i64 t342, .bool t343, .bool t344, .bool t345] 69 (0, 0)) (m_50) hb); have n2_ := Aside0.mk (below_step (m_25) hb); clear BK338; clear BK347; clear HB; have BK338 := n0_; have BK347 := n1_; have HB := n2_; clear n0_ n1_ n2_; (try clear hb); (try clear hb2); (try clear hk); (try clear hi); obtain ⟨hcz46_0, hcz46_1, hcz46_2, hcz46_3, hcz46_4, hcz46_5, hcz46_6, hfz46_0, hfz46_1, hfz46_2, hfz46_3, hfz46_4, hfz46_5, hfz46_6⟩ := cz7 (w := w45) BK347.out)); go_upto_if 108 with (first | (go_at_call 44; (with_reducible refine (d2P.calls kj17 t342 a0_4 t351 t352 _ A40.out).mono ?_); rintro e w45 ⟨rfl, hb⟩; have n0_ := Aside0.mk (blk_below (g := gb338) (o := .cells #[.int .i64 a0_0, .int .i64 a0_1, .int .i64 a0_2, .int .i64 a0_3, .int .i32 a0_4] 32 (0, 0)) (m_20) hb); have n1_ := Aside0.mk (blk_below (g := gb347) (o := .cells #[.int .u32 t339, .int .u32 t340, .int .u32 t341, .int .i64 t342, .bool t343, .bool t344, .bool t345] 69 (0, 0)) (m_50) hb); have n2_ := Aside0.mk (below_step (m_25) hb); clear BK338; clear BK347; clear HB; have BK338 := n0_; have BK347 := n1_; have HB := n2_; clear n0_ n1_ n2_; (try clear hb); (try clear hb2); (try clear hk); (try clear hi); obtain ⟨hcz46_0, hcz46_1, hcz46_2, hcz46_3, hcz46_4, hcz46_5, hcz46_6, hfz46_0, hfz46_1, hfz46_2, hfz46_3, hfz46_4, hfz46_5, hfz46_6⟩ := cz7 (w := w45) BK347.out)))
         (try simp only [Act.put, List.setIfInBounds_toArray, List.set_cons_zero, List.set_cons_succ])
         go_cut [7, 8] (fun v7 v8 wc => ∃ (kq : Nat) (x7_40 : Int) (x8_40 : Bool), v7 = .int .u32 x7_40 ∧ v8 = .bool x8_40 ∧ Aside0 (d3E.j2 kq ((((((((((t339 + ((t340 * 4096) % 4294967296)) % 4294967296) + ((t341 * 33554432) % 4294967296)) % 4294967296) + ((((a0_1) % 4294967296) * 128) % 4294967296)) % 4294967296) + ((((a0_2) % 4294967296) * 32768) % 4294967296)) % 4294967296) + ((((a0_3) % 4294967296) * 1048576) % 4294967296)) % 4294967296) x7_40 x8_40 a0_0 a0_1 a0_2 a0_3 a0_4 t339 t340 t341 t342 t343 t344 t345 = some (r1, r2)) ∧ Aside0 (kq ≤ kj17) ∧ Aside0 (wc.heap[gb338]? = some (.cells #[.int .i64 a0_0, .int .i64 a0_1, .int .i64 a0_2, .int .i64 a0_3, .int .i32 a0_4] 32 (0, 0))) ∧ Aside0 (wc.heap[gb347]? = some (.cells #[.int .u32 t339, .int .u32 t340, .int .u32 t341, .int .i64 t342, .bool t343, .bool t344, .bool t345] 69 (0, 0))) ∧ Aside0 (Below w.heap.size w wc))
         case first =>
          have H := HC41.out
          clear HC41
          by_cases c47 : t342 = 0
          · rw [if_pos c47] at H
            have c47b0 : (t342 == 0) = true := beq_iff_eq.mpr c47
            have c47b1 : (t342 != 0) = false := bne_eq_false_iff_eq.mpr c47
            clear c47
            (first | rw [c47b0] | (simp only [i64_w, i32_w]; rw [c47b0]) | skip)
            have H' := Aside0.mk H
            clear H
            have hnb48 := NB338_347.out
            have hnc48 := NB347_338.out
            obtain ⟨hcz49_0, hcz49_1, hcz49_2, hcz49_3, hcz49_4, hfz49_0, hfz49_1, hfz49_2, hfz49_3, hfz49_4⟩ := cz5 (w := w45) BK338.out
            go_wp2
            repeat (go_quiet (fail); try go_wp2)
            go_meet
            case rel => exact ⟨_, (0), ((a0_4 == 0)), (m_5), (m_5), H', ⟨by have := HJ1.out; have := HJ17.out; first | omega | exact Nat.le_refl _⟩, ⟨m_20⟩, ⟨m_50⟩, ⟨m_25⟩⟩
          · rw [if_neg c47] at H
            have c47b0 : (t342 == 0) = false := beq_eq_false_iff_ne.mpr c47
            have c47b1 : (t342 != 0) = true := bne_iff_ne.mpr c47
            (first | rw [c47b0] | (simp only [i64_w, i32_w]; rw [c47b0]) | skip)
            have H' := Aside0.mk H
            clear H
            go_wp2
            repeat (go_quiet (fail); try go_wp2)
            go_meet
            case rel => exact ⟨_, (t351), (t352), (m_5), (m_5), H', ⟨by have := HJ1.out; have := HJ17.out; first | omega | exact Nat.le_refl _⟩, ⟨m_20⟩, ⟨m_50⟩, ⟨m_25⟩⟩
         case rest =>
          clear HC41
          obtain ⟨kq, x7_40, x8_40, rfl, rfl, HA, HJ40, BK338, BK347, HB⟩ := hcut
          cases kq with
          | zero => exact absurd HA.out (by simp [d3E.j2])
          | succ kj40 =>
           have H := HA.out
           clear HA
           simp only [d3E.j2] at H
           by_cases c50 : t342 = 6
           · rw [if_pos c50] at H
             have c50b0 : (t342 == 6) = true := beq_iff_eq.mpr c50
             have c50b1 : (t342 != 6) = false := bne_eq_false_iff_eq.mpr c50
             clear c50
             by_cases c51 : a0_4 ≥ 0
             · rw [if_pos c51] at H
               have c51b0 : decide (0 ≤ a0_4) = true := decide_eq_true c51
               clear c51
               by_cases c52 : a0_4 < 32
               · rw [if_pos c52] at H
                 have c52b0 : decide (a0_4 < 32) = true := decide_eq_true c52
                 clear c52
                 exact lfxRsPintleref03Encode2
               · rw [if_neg c52] at H
                 have c52b0 : decide (a0_4 < 32) = false := decide_eq_false c52
                 clear c52
                 exact lfxRsPintleref03Encode2
             · rw [if_neg c51] at H
               have c51b0 : decide (0 ≤ a0_4) = false := decide_eq_false c51
               clear c51
               exact lfxRsPintleref03Encode2
           · rw [if_neg c50] at H
             have c50b0 : (t342 == 6) = false := beq_eq_false_iff_ne.mpr c50
             have c50b1 : (t342 != 6) = true := bne_iff_ne.mpr c50
             by_cases c62 : x8_40 = true
             · subst c62
               have H1 : (some ((((((((((((t339 + ((t340 * 4096) % 4294967296)) % 4294967296) + ((t341 * 33554432) % 4294967296)) % 4294967296) + ((((a0_1) % 4294967296) * 128) % 4294967296)) % 4294967296) + ((((a0_2) % 4294967296) * 32768) % 4294967296)) % 4294967296) + ((((a0_3) % 4294967296) * 1048576) % 4294967296)) % 4294967296) + x7_40) % 4294967296, true)) = some (r1, r2) := by rw [if_pos rfl] at H; exact H
               clear H
               have H := H1
               clear H1
               simp only [Option.some.injEq, Prod.mk.injEq] at H
               obtain ⟨rfl, rfl⟩ := H
               have hnb63 := NB347_338.out
               have hnc63 := NB338_347.out
               obtain ⟨hcz64_0, hcz64_1, hcz64_2, hcz64_3, hcz64_4, hcz64_5, hcz64_6, hfz64_0, hfz64_1, hfz64_2, hfz64_3, hfz64_4, hfz64_5, hfz64_6⟩ := cz7 (w := wc) BK347.out
               exact lfxRsPintleref03Encode1
             · replace c62 := Bool.eq_false_iff.mpr c62
               subst c62
               have H1 : (some (0, false)) = some (r1, r2) := by rw [if_neg (show ¬ (false = true) by decide)] at H; exact H
               clear H
               have H := H1
               clear H1
               simp only [Option.some.injEq, Prod.mk.injEq] at H
               obtain ⟨rfl, rfl⟩ := H
               have hnb65 := NB347_338.out
               have hnc65 := NB338_347.out
               obtain ⟨hcz66_0, hcz66_1, hcz66_2, hcz66_3, hcz66_4, hcz66_5, hcz66_6, hfz66_0, hfz66_1, hfz66_2, hfz66_3, hfz66_4, hfz66_5, hfz66_6⟩ := cz7 (w := wc) BK347.out
               exact lfxRsPintleref03Encode1
end Go.Proofs.Ytihecimbhhlhaaa.PRs
