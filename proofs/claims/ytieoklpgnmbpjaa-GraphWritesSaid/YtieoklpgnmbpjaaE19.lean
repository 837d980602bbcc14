/- Networks that are one are the same. -/
import Derived.Test.YtieoklpgnmbpjaaE18
import Derived.Test.YtieoklpgnmbpjaaE13
namespace Go.Proofs.Ytieoklpgnmbpjaa.Gr
open Go.RowKit Dr
open Go.Proofs.YtieoklpgnmbpjaaW.PrintWords (Kd Kd.C Kd.R Kd.M_step Kd.C_below Kd.C_get Kd.R_below Kd.R_reads Kd.R_reads' Kd.R_types Kd.R_step Kd.R_alloc Kd.R_drew Kd.R_lower add_field Kd.R_append Kd.R_bound Kd.R_move Kd.R_mono Kd.R_nil Kd.R_set Kd.R_ne Kd.R_over' Kd.R_typed Kd.C_nil Kd.R_slice Kd.R_append_rows Kd.R_form ReadsRow Kd.C_string)
set_option linter.unusedVariables false
set_option linter.unusedSimpArgs false
set_option maxRecDepth 100000
theorem neq_self {t : TypeId} {k : IntKind} {x : Int} {p q : Operand} (W : World) : (do eqGuard .neq t p q (.int k x) (.int k x); binOp .neq t (.int k x) (.int k x) : Sem Value).run Try.prog W = .ok (.bool false) W := by
  rw [b_neq]
  simp
set_option maxHeartbeats 32000000 in
theorem same_is (a b c o : Int) (AU AV BU BV : Option Addr) (cU cV dU dV : Nat) (cs : List (List Int × List Int)) (ns : List (List Int)) (w : World) (hC1 : kCo.C w AU cs.length cs) (hN1 : kNd.C w AV ns.length ns) (hC2 : kCo.C w BU cs.length cs) (hN2 : kNd.C w BV ns.length ns) :
    Calls Try.prog 11 #[.agg #[.int .i64 a, .int .i64 b, .int .i64 c, .slice AU cs.length cU, .slice AV ns.length cV, .int .i64 o], .agg #[.int .i64 a, .int .i64 b, .int .i64 c, .slice BU cs.length dU, .slice BV ns.length dV, .int .i64 o]] w fun e w' => e = .returned (.bool true) ∧ Below w.heap.size w w' := by
  have hB := below_alloc (below_alloc (Below.refl w.heap.size w) (.cells #[.int .i64 a, .int .i64 b, .int .i64 c, .slice AU cs.length cU, .slice AV ns.length cV, .int .i64 o] 26)) (.cells #[.int .i64 a, .int .i64 b, .int .i64 c, .slice BU cs.length dU, .slice BV ns.length dV, .int .i64 o] 26)
  have hx1 := blk_alloc (blk_new w (.cells #[.int .i64 a, .int .i64 b, .int .i64 c, .slice AU cs.length cU, .slice AV ns.length cV, .int .i64 o] 26)) (.cells #[.int .i64 a, .int .i64 b, .int .i64 c, .slice BU cs.length dU, .slice BV ns.length dV, .int .i64 o] 26)
  have hx2 := blk_new (w.alloc (.cells #[.int .i64 a, .int .i64 b, .int .i64 c, .slice AU cs.length cU, .slice AV ns.length cV, .int .i64 o] 26)) (.cells #[.int .i64 a, .int .i64 b, .int .i64 c, .slice BU cs.length dU, .slice BV ns.length dV, .int .i64 o] 26)
  have hs2 : (w.alloc (.cells #[.int .i64 a, .int .i64 b, .int .i64 c, .slice AU cs.length cU, .slice AV ns.length cV, .int .i64 o] 26)).heap.size = w.heap.size + 1 := by simp
  rw [hs2] at hx2
  have HC1 := Lib.hid hC1
  have HC2 := Lib.hid hC2
  have HN1 := Lib.hid hN1
  have HN2 := Lib.hid hN2
  have hcl := hC1.2.1
  have hnl := hN1.2.1
  clear hC1 hC2 hN1 hN2 hs2
  go_enter Try.func11, Try.ntmps11
  apply wp_seq_k; intro K1 hK1; have HK1 := Lib.hid hK1; clear hK1
  go_wp2
  refine HK1.out _ _ ?_; clear HK1
  generalize (w.alloc (.cells #[.int .i64 a, .int .i64 b, .int .i64 c, .slice AU cs.length cU, .slice AV ns.length cV, .int .i64 o] 26)).alloc (.cells #[.int .i64 a, .int .i64 b, .int .i64 c, .slice BU cs.length dU, .slice BV ns.length dV, .int .i64 o] 26) = W1 at *
  have HB := Lib.hid hB
  have HX1 := Lib.hid hx1
  have HX2 := Lib.hid hx2
  clear hB hx1 hx2
  have p0 := (blk_cell HX1.out 0).trans (show _ = some (Value.int .i64 a) from rfl)
  have p1 := (blk_cell HX1.out 1).trans (show _ = some (Value.int .i64 b) from rfl)
  have p2 := (blk_cell HX1.out 2).trans (show _ = some (Value.int .i64 c) from rfl)
  have p3 := (blk_cell HX1.out 3).trans (show _ = some (Value.slice AU cs.length cU) from rfl)
  have p4 := (blk_cell HX1.out 4).trans (show _ = some (Value.slice AV ns.length cV) from rfl)
  have p5 := (blk_cell HX1.out 5).trans (show _ = some (Value.int .i64 o) from rfl)
  have q0 := (blk_cell HX2.out 0).trans (show _ = some (Value.int .i64 a) from rfl)
  have q1 := (blk_cell HX2.out 1).trans (show _ = some (Value.int .i64 b) from rfl)
  have q2 := (blk_cell HX2.out 2).trans (show _ = some (Value.int .i64 c) from rfl)
  have q3 := (blk_cell HX2.out 3).trans (show _ = some (Value.slice BU cs.length dU) from rfl)
  have q4 := (blk_cell HX2.out 4).trans (show _ = some (Value.slice BV ns.length dV) from rfl)
  have q5 := (blk_cell HX2.out 5).trans (show _ = some (Value.int .i64 o) from rfl)
  have hne := neqA22 a b c
  apply wp_seq_k; intro K1 hK1; have HK1 := Lib.hid hK1; clear hK1
  go_wp2
  clear hne p0 q0 p1 q1 p2 q2 p3 q3 p4 q4 p5 q5
  refine HK1.out _ _ ?_; clear HK1
  apply wp_seq_k; intro K1 hK1; have HK1 := Lib.hid hK1; clear hK1
  go_wp2
  refine wp_loopS [5, 41, 42, 43, 44, 45, 46, 47, 48, 49, 50, 51, 52, 53, 54, 55, 56, 57, 58] (fun sl W => ∃ i : Nat, sl 5 = .int .i64 (i : Int) ∧ i ≤ ns.length ∧ Below W1.heap.size W1 W) (fun sl W => Msr (ns.length : Int) (sl 5)) ⟨0, rfl, Nat.zero_le _, Below.refl _ _⟩ ?_
  intro vs2 W2 a2 hb2' hI
  obtain ⟨i, hsl, hi, hS⟩ := hI
  simp only [setSlots, Act.put, List.setIfInBounds_toArray, List.set_cons_succ, List.set_cons_zero] at hb2'
  subst hb2'
  replace hsl : vs2 5 = .int .i64 (i : Int) := hsl
  rw [hsl]
  clear hsl
  have HS := Lib.hid hS
  clear hS
  by_cases hil : i < ns.length
  rotate_left
  rotate_left
  · have hd : decide ((i : Int) < (ns.length : Int)) = true := decide_eq_true (by omega)
    have hinc : IntKind.i64.wrap ((i : Int) + 1) = (i : Int) + 1 := IntWalk.i64_in _ (by omega)
    obtain ⟨x, hx⟩ : ∃ x, ns[i]? = some x := ⟨_, List.getElem?_eq_getElem hil⟩
    have hBw := below_step HB.out HS.out
    obtain ⟨ad, hAd, hcell⟩ := nd_get (Kd.C_below HN1.out hBw) hx
    obtain ⟨bd, hBd, hcell2⟩ := nd_get (Kd.C_below HN2.out hBw) hx
    subst hAd
    subst hBd
    have HY1 := Lib.hid (blk_below HX1.out HS.out)
    have HY2 := Lib.hid (blk_below HX2.out HS.out)
    have HCE := Lib.hid hcell
    have HCE2 := Lib.hid hcell2
    clear hcell hcell2
    have p4 := (blk_cell HY1.out 4).trans (show _ = some (Value.slice (some ad) ns.length cV) from rfl)
    go_wp2
    refine wp_drawn (R := fun W W' => Below W.heap.size W W') 11 [.val (.pointer (some ⟨w.heap.size, 4, none⟩)), .val (.slice (some ad) ns.length cV), .val (.int .i64 (i : Int)), .val (.pointer (some (ad.add (i * 26)))), .val (.agg (nrow x).toArray), .val (.pointer (some ⟨w.heap.size + 1, 4, none⟩)), .val (.slice (some bd) ns.length dV), .val (.int .i64 (i : Int)), .val (.pointer (some (bd.add (i * 26)))), .val (.agg (nrow x).toArray), .val (.bool false)] (fun W => Below W2.heap.size W2 W) rfl (by kernel_rfl) (Below.refl _ _).drew ?_ ?_
    · intro vs W hG a1 ha1
      have e2 : a1.eval (.tmp 2) = .pointer (some ⟨w.heap.size, 0, none⟩) := eo ha1 (by kernel_rfl)
      have e3 : a1.eval (.tmp 3) = .pointer (some ⟨w.heap.size + 1, 0, none⟩) := eo ha1 (by kernel_rfl)
      have e5 : a1.eval (.tmp 5) = .int .i64 (i : Int) := eo ha1 (by kernel_rfl)
      have i48 := ei (d := 48) ha1 0 (by kernel_rfl) rfl rfl (by simp)
      have i49 := ei (d := 49) ha1 1 (by kernel_rfl) rfl rfl (by simp)
      have i50 := ei (d := 50) ha1 2 (by kernel_rfl) rfl rfl (by simp)
      have i51 := ei (d := 51) ha1 3 (by kernel_rfl) rfl rfl (by simp)
      have i52 := ei (d := 52) ha1 4 (by kernel_rfl) rfl rfl (by simp)
      have i53 := ei (d := 53) ha1 5 (by kernel_rfl) rfl rfl (by simp)
      have i54 := ei (d := 54) ha1 6 (by kernel_rfl) rfl rfl (by simp)
      have i55 := ei (d := 55) ha1 7 (by kernel_rfl) rfl rfl (by simp)
      have i56 := ei (d := 56) ha1 8 (by kernel_rfl) rfl rfl (by simp)
      have i57 := ei (d := 57) ha1 9 (by kernel_rfl) rfl rfl (by simp)
      clear ha1
      refine And.intro ?_ (And.intro ?_ (And.intro ?_ (And.intro ?_ (And.intro ?_ (And.intro ?_ (And.intro ?_ (And.intro ?_ (And.intro ?_ (And.intro ?_ (And.intro ?_ (trivial)))))))))))
      · intro hp K hK
        refine g_no rfl ?_
        exact st_field rfl (e2) (by kernel_rfl) (hK _ _ rfl hG (Below.refl _ _))
      · intro hp K hK
        refine g_no rfl ?_
        have e48 : a1.eval (.tmp 48) = _ := i48.trans (hp 0 (by kernel_rfl))
        exact st_load rfl (e48) (ld_cell 24 (by kernel_rfl) ((blk_cell (blk_below HY1.out hG) 4).trans rfl)) (hK _ _ rfl hG (Below.refl _ _))
      · intro hp K hK
        refine g_no rfl ?_
        exact st_move (.inl rfl) (e5) (hK _ _ rfl hG (Below.refl _ _))
      · intro hp K hK
        refine g_no rfl ?_
        have e49 : a1.eval (.tmp 49) = _ := i49.trans (hp 1 (by kernel_rfl))
        have e50 : a1.eval (.tmp 50) = _ := i50.trans (hp 2 (by kernel_rfl))
        exact st_index rfl (e49) (e50) (ix24 ad ns.length cV i hil _) (hK _ _ rfl hG (Below.refl _ _))
      · intro hp K hK
        refine g_no rfl ?_
        have e51 : a1.eval (.tmp 51) = _ := i51.trans (hp 3 (by kernel_rfl))
        exact st_load rfl (e51) (ld55 HCE.out hG) (hK _ _ rfl hG (Below.refl _ _))
      · intro hp K hK
        refine g_no rfl ?_
        exact st_field rfl (e3) (by kernel_rfl) (hK _ _ rfl hG (Below.refl _ _))
      · intro hp K hK
        refine g_no rfl ?_
        have e53 : a1.eval (.tmp 53) = _ := i53.trans (hp 5 (by kernel_rfl))
        exact st_load rfl (e53) (ld_cell 24 (by kernel_rfl) ((blk_cell (blk_below HY2.out hG) 4).trans rfl)) (hK _ _ rfl hG (Below.refl _ _))
      · intro hp K hK
        refine g_no rfl ?_
        exact st_move (.inl rfl) (e5) (hK _ _ rfl hG (Below.refl _ _))
      · intro hp K hK
        refine g_no rfl ?_
        have e54 : a1.eval (.tmp 54) = _ := i54.trans (hp 6 (by kernel_rfl))
        have e55 : a1.eval (.tmp 55) = _ := i55.trans (hp 7 (by kernel_rfl))
        exact st_index rfl (e54) (e55) (ix24 bd ns.length dV i hil _) (hK _ _ rfl hG (Below.refl _ _))
      · intro hp K hK
        refine g_no rfl ?_
        have e56 : a1.eval (.tmp 56) = _ := i56.trans (hp 8 (by kernel_rfl))
        exact st_load rfl (e56) (ld55 HCE2.out hG) (hK _ _ rfl hG (Below.refl _ _))
      · intro hp K hK
        refine g_no rfl ?_
        have e52 : a1.eval (.tmp 52) = _ := i52.trans (hp 4 (by kernel_rfl))
        have e57 : a1.eval (.tmp 57) = _ := i57.trans (hp 9 (by kernel_rfl))
        exact st_bin rfl (e52) (e57) (neqN x _ _ _) (hK _ _ rfl hG (Below.refl _ _))
    intro vs W hG hp a1 ha1
    have q10 : vs 10 = _ := hp 10 (by decide)
    clear hp
    simp only [fill, Act.put, List.append_eq, List.cons_append, List.nil_append, List.take_succ_cons, List.take_zero, List.setIfInBounds_toArray, List.set_cons_succ, List.set_cons_zero, Nat.reduceAdd, Nat.zero_add, q10] at ha1
    subst ha1
    refine wpList_nil ?_
    clear q10
    have HG := Lib.hid hG
    clear hG p4
    go_wp2
    exact ⟨loop_frame (by kernel_rfl), ⟨i + 1, by show Value.int .i64 _ = _; simp, by omega, below_step HS.out HG.out⟩, Msr.lt (by omega)⟩
  · have hd : decide ((i : Int) < (ns.length : Int)) = false := decide_eq_false (by omega)
    obtain rfl : i = ns.length := by omega
    have HY1 := Lib.hid (blk_below HX1.out HS.out)
    have p4 := (blk_cell HY1.out 4).trans (show _ = some (Value.slice AV ns.length cV) from rfl)
    go_wp2
    clear p4 HY1
    refine HK1.out _ _ ?_; clear HK1
    apply wp_seq_k; intro K1 hK1; have HK1 := Lib.hid hK1; clear hK1
    go_wp2
    have HZ1 := Lib.hid (blk_below HX1.out HS.out)
    have HZ2 := Lib.hid (blk_below HX2.out HS.out)
    have HBZ := Lib.hid (below_step HB.out HS.out)
    clear HX1 HX2 HB HS hil hi hd
    refine wp_loopS [6, 7, 8, 9, 10, 59, 60, 61, 62, 63, 64, 65, 66, 67, 68, 69, 70, 71, 72, 73, 74, 75, 76, 77, 78, 79, 80, 81, 82, 83, 84, 85, 86, 87, 88, 89, 90, 91, 92, 93, 94, 95, 96, 97, 98, 99, 100, 101, 102, 103, 104, 105, 106, 107, 108, 109, 110, 111, 112, 113, 114, 115, 116, 117, 118, 119, 120, 121, 122, 123, 124, 125, 126, 127] (fun sl W => ∃ j : Nat, sl 6 = .int .i64 (j : Int) ∧ j ≤ cs.length ∧ Below W2.heap.size W2 W) (fun sl W => Msr (cs.length : Int) (sl 6)) ⟨0, rfl, Nat.zero_le _, Below.refl _ _⟩ ?_
    intro vs5 W5 a5 hb5' hI
    obtain ⟨j, hsl, hi, hS⟩ := hI
    simp only [setSlots, Act.put, List.setIfInBounds_toArray, List.set_cons_succ, List.set_cons_zero] at hb5'
    subst hb5'
    replace hsl : vs5 6 = .int .i64 (j : Int) := hsl
    rw [hsl]
    clear hsl
    have HS := Lib.hid hS
    clear hS
    by_cases hil : j < cs.length
    rotate_left
    · have hd : decide ((j : Int) < (cs.length : Int)) = false := decide_eq_false (by omega)
      obtain rfl : j = cs.length := by omega
      have HY1 := Lib.hid (blk_below HZ1.out HS.out)
      have p3 := (blk_cell HY1.out 3).trans (show _ = some (Value.slice AU cs.length cU) from rfl)
      go_wp2
      refine HK1.out _ _ ?_; clear HK1
      go_wp2
      go_ret
      exact ⟨rfl, below_step HBZ.out HS.out⟩
    · have hd : decide ((j : Int) < (cs.length : Int)) = true := decide_eq_true (by omega)
      have hinc : IntKind.i64.wrap ((j : Int) + 1) = (j : Int) + 1 := IntWalk.i64_in _ (by omega)
      obtain ⟨x, hx⟩ : ∃ x, cs[j]? = some x := ⟨_, List.getElem?_eq_getElem hil⟩
      have hBw := below_step HBZ.out HS.out
      obtain ⟨ad, A1, c1, A2, c2, hAd, hcell, -, -, hA1, hA2⟩ := co_get (Kd.C_below HC1.out hBw) hx
      obtain ⟨bd, B1, e1, B2, e2, hBd, hcell2, -, -, hB1, hB2⟩ := co_get (Kd.C_below HC2.out hBw) hx
      subst hAd
      subst hBd
      have HY1 := Lib.hid (blk_below HZ1.out HS.out)
      have HY2 := Lib.hid (blk_below HZ2.out HS.out)
      have HCE := Lib.hid hcell
      have HCE2 := Lib.hid hcell2
      have HA1 := Lib.hid hA1
      have HA2 := Lib.hid hA2
      have HB1 := Lib.hid hB1
      have HB2 := Lib.hid hB2
      have hx1l := hA1.2.1
      have hx2l := hA2.2.1
      clear hcell hcell2 hA1 hA2 hB1 hB2
      have p3 := (blk_cell HY1.out 3).trans (show _ = some (Value.slice (some ad) cs.length cU) from rfl)
      go_wp2
      clear p3
      refine wp_drawnV (R := fun _ _ => True) 13 [.val (.pointer (some ⟨w.heap.size, 3, none⟩)), .val (.slice (some ad) cs.length cU), .val (.int .i64 (j : Int)), .val (.pointer (some (ad.add (j * 2)))), .val (.agg #[.slice A1 x.1.length c1, .slice A2 x.2.length c2]), .val (.pointer (some ⟨w.heap.size + 1, 3, none⟩)), .val (.slice (some bd) cs.length dU), .val (.int .i64 (j : Int)), .val (.pointer (some (bd.add (j * 2)))), .val (.agg #[.slice B1 x.1.length e1, .slice B2 x.2.length e2]), DSpec.any, DSpec.any, DSpec.any] (SG W5 #[.slice A1 x.1.length c1, .slice A2 x.2.length c2]) rfl (by kernel_rfl) (fun vs => ⟨(Below.refl _ _).drew, (fun h => by cases h), (fun h => by cases h), (fun h => by cases h)⟩) ?_ ?_
      · intro vs W d hG a1 ha1
        have e2 : a1.eval (.tmp 2) = .pointer (some ⟨w.heap.size, 0, none⟩) := eo ha1 (by kernel_rfl)
        have e3 : a1.eval (.tmp 3) = .pointer (some ⟨w.heap.size + 1, 0, none⟩) := eo ha1 (by kernel_rfl)
        have e6 : a1.eval (.tmp 6) = .int .i64 (j : Int) := eo ha1 (by kernel_rfl)
        have i7 := ei (d := 7) ha1 10 (by kernel_rfl) rfl rfl (by simp)
        have i66 := ei (d := 66) ha1 0 (by kernel_rfl) rfl rfl (by simp)
        have i67 := ei (d := 67) ha1 1 (by kernel_rfl) rfl rfl (by simp)
        have i68 := ei (d := 68) ha1 2 (by kernel_rfl) rfl rfl (by simp)
        have i69 := ei (d := 69) ha1 3 (by kernel_rfl) rfl rfl (by simp)
        have i70 := ei (d := 70) ha1 4 (by kernel_rfl) rfl rfl (by simp)
        have i71 := ei (d := 71) ha1 5 (by kernel_rfl) rfl rfl (by simp)
        have i72 := ei (d := 72) ha1 6 (by kernel_rfl) rfl rfl (by simp)
        have i73 := ei (d := 73) ha1 7 (by kernel_rfl) rfl rfl (by simp)
        have i74 := ei (d := 74) ha1 8 (by kernel_rfl) rfl rfl (by simp)
        clear ha1
        refine And.intro ?_ (And.intro ?_ (And.intro ?_ (And.intro ?_ (And.intro ?_ (And.intro ?_ (And.intro ?_ (And.intro ?_ (And.intro ?_ (And.intro ?_ (And.intro ?_ (And.intro ?_ (And.intro ?_ (trivial)))))))))))))
        · intro hd hp hkd K hK
          refine g_no rfl ?_
          exact st_field rfl (e2) (by kernel_rfl) (hK _ _ rfl (hG.other (by decide) _) trivial)
        · intro hd hp hkd K hK
          refine g_no rfl ?_
          have e66 : a1.eval (.tmp 66) = _ := i66.trans (hp 0 (by kernel_rfl))
          exact st_load rfl (e66) (ld_cell 23 (by kernel_rfl) ((blk_cell (blk_below HY1.out hG.bel) 3).trans rfl)) (hK _ _ rfl (hG.other (by decide) _) trivial)
        · intro hd hp hkd K hK
          refine g_no rfl ?_
          exact st_move (.inl rfl) (e6) (hK _ _ rfl (hG.other (by decide) _) trivial)
        · intro hd hp hkd K hK
          refine g_no rfl ?_
          have e67 : a1.eval (.tmp 67) = _ := i67.trans (hp 1 (by kernel_rfl))
          have e68 : a1.eval (.tmp 68) = _ := i68.trans (hp 2 (by kernel_rfl))
          exact st_index rfl (e67) (e68) (ix23 ad cs.length cU j hil _) (hK _ _ rfl (hG.other (by decide) _) trivial)
        · intro hd hp hkd K hK
          refine g_no rfl ?_
          have e69 : a1.eval (.tmp 69) = _ := i69.trans (hp 3 (by kernel_rfl))
          exact st_load rfl (e69) (ld42 HCE.out hG.bel) (hK _ _ rfl (hG.other (by decide) _) trivial)
        · intro hd hp hkd K hK
          refine g_no rfl ?_
          exact st_field rfl (e3) (by kernel_rfl) (hK _ _ rfl (hG.other (by decide) _) trivial)
        · intro hd hp hkd K hK
          refine g_no rfl ?_
          have e71 : a1.eval (.tmp 71) = _ := i71.trans (hp 5 (by kernel_rfl))
          exact st_load rfl (e71) (ld_cell 23 (by kernel_rfl) ((blk_cell (blk_below HY2.out hG.bel) 3).trans rfl)) (hK _ _ rfl (hG.other (by decide) _) trivial)
        · intro hd hp hkd K hK
          refine g_no rfl ?_
          exact st_move (.inl rfl) (e6) (hK _ _ rfl (hG.other (by decide) _) trivial)
        · intro hd hp hkd K hK
          refine g_no rfl ?_
          have e72 : a1.eval (.tmp 72) = _ := i72.trans (hp 6 (by kernel_rfl))
          have e73 : a1.eval (.tmp 73) = _ := i73.trans (hp 7 (by kernel_rfl))
          exact st_index rfl (e72) (e73) (ix23 bd cs.length dU j hil _) (hK _ _ rfl (hG.other (by decide) _) trivial)
        · intro hd hp hkd K hK
          refine g_no rfl ?_
          have e74 : a1.eval (.tmp 74) = _ := i74.trans (hp 8 (by kernel_rfl))
          exact st_load rfl (e74) (ld42 HCE2.out hG.bel) (hK _ _ rfl (hG.other (by decide) _) trivial)
        · intro hd hp hkd K hK
          refine g_no rfl ?_
          exact st_alloc rfl (by kernel_rfl) (hK _ _ trivial (hG.a10 hd) trivial)
        · intro hd hp hkd K hK
          refine g_no rfl ?_
          exact st_alloc rfl (by kernel_rfl) (hK _ _ trivial hG.a11 trivial)
        · intro hd hp hkd K hK
          refine g_no rfl ?_
          have q10 : True := hp 10 (by kernel_rfl)
          have e7 := i7
          have e70 : a1.eval (.tmp 70) = _ := i70.trans (hp 4 (by kernel_rfl))
          exact (by obtain ⟨g7, hv7, hz, hS⟩ := hG.s12 hd (hkd 10 (by kernel_rfl)) rfl; exact wp_store_mid 42 (.tmp 7) (.tmp 70) rfl g7 0 #[.slice A1 x.1.length c1, .slice A2 x.2.length c2] (e7.trans hv7) e70 (by have h := blk_there hz; exact h) (by kernel_rfl) (by kernel_rfl) (hK undef _ trivial hS trivial))
      intro vs W d hG hp hall a1 ha1
      have q9 : vs 9 = _ := hp 9 (by decide)
      have q10 : True := hp 10 (by decide)
      have q11 : True := hp 11 (by decide)
      have q12 : True := hp 12 (by decide)
      clear hp
      simp only [fill, Act.put, List.append_eq, List.cons_append, List.nil_append, List.take_succ_cons, List.take_zero, List.setIfInBounds_toArray, List.set_cons_succ, List.set_cons_zero, Nat.reduceAdd, Nat.zero_add, q9] at ha1
      subst ha1
      simp only [List.append_eq, List.cons_append, List.nil_append, List.drop_succ_cons, List.drop_zero]
      clear q9
      obtain ⟨g7, hv7, hg7, hb7⟩ := hG.h10 (hall 10 (by decide))
      obtain ⟨g8, hv8, hg8, hb8, hne⟩ := hG.h11 (hall 11 (by decide))
      rw [hall 12 (by decide)] at hb7
      have hne2 : g7 ≠ g8 := fun e => hne (hall 10 (by decide)) (by rw [hv7, hv8, e])
      rw [hv7, hv8]
      clear hv7 hv8 hne
      have hb7' : W.heap[g7]? = some (.cells #[.slice A1 x.1.length c1, .slice A2 x.2.length c2] 42 (0, 0)) := hb7
      have hBW := hG.bel
      clear hG hb7 hall
      refine wpList_store_mid rfl 42 (.tmp 8) (.tmp 75) rfl g8 0 #[.slice B1 x.1.length e1, .slice B2 x.2.length e2] (by kernel_rfl) (by kernel_rfl) (by have h := blk_there hb8; exact h) (by kernel_rfl) (by kernel_rfl) ?_
      have hX8 := blk_puts (cs' := #[.slice B1 x.1.length e1, .slice B2 x.2.length e2]) hb8 rfl
      have hX7 : (W.setCells g8 0 (#[.slice B1 x.1.length e1, .slice B2 x.2.length e2] : Array Value).toList).heap[g7]? = some (.cells #[.slice A1 x.1.length c1, .slice A2 x.2.length c2] 42 (0, 0)) := blk_puts_far hb7' hne2
      have hBV : Below W5.heap.size W5 (W.setCells g8 0 (#[.slice B1 x.1.length e1, .slice B2 x.2.length e2] : Array Value).toList) := below_setsL _ 0 0 hBW hg8
      clear hb7' hb8 hBW
      generalize W.setCells g8 0 (#[.slice B1 x.1.length e1, .slice B2 x.2.length e2] : Array Value).toList = V at hX7 hX8 hBV ⊢
      have HX7 := Lib.hid hX7
      have HX8 := Lib.hid hX8
      have HBV := Lib.hid hBV
      clear hX7 hX8 hBV hne2 hg7 hg8
      refine wpList_nil ?_
      simp only [Act.put]
      have r0 := (blk_cell HX7.out 0).trans (show _ = some (Value.slice A1 x.1.length c1) from rfl)
      have r1 := (blk_cell HX7.out 1).trans (show _ = some (Value.slice A2 x.2.length c2) from rfl)
      have t0 := (blk_cell HX8.out 0).trans (show _ = some (Value.slice B1 x.1.length e1) from rfl)
      have t1 := (blk_cell HX8.out 1).trans (show _ = some (Value.slice B2 x.2.length e2) from rfl)
      go_wp2
      clear r0 r1 t0 t1
      have HSo := Lib.hid HS.out
      clear HS HY1 HY2
      refine wp_loopS [9, 92, 93, 94, 95, 96, 97, 98, 99, 100, 101, 102, 103, 104, 105, 106, 107, 108, 109] (fun sl W => ∃ q : Nat, sl 9 = .int .i64 (q : Int) ∧ q ≤ x.1.length ∧ Below V.heap.size V W) (fun sl W => Msr (x.1.length : Int) (sl 9)) ⟨0, rfl, Nat.zero_le _, Below.refl _ _⟩ ?_
      intro vs8 W8 a8 hb8' hI
      obtain ⟨q, hsl, hi, hS⟩ := hI
      simp only [setSlots, Act.put, List.setIfInBounds_toArray, List.set_cons_succ, List.set_cons_zero] at hb8'
      subst hb8'
      replace hsl : vs8 9 = .int .i64 (q : Int) := hsl
      rw [hsl]
      clear hsl
      have HS := Lib.hid hS
      clear hS
      by_cases hil : q < x.1.length
      rotate_left
      rotate_left
      · have hd : decide ((q : Int) < (x.1.length : Int)) = true := decide_eq_true (by omega)
        have hinc2 : IntKind.i64.wrap ((q : Int) + 1) = (q : Int) + 1 := IntWalk.i64_in _ (by omega)
        obtain ⟨z, hz⟩ : ∃ z, x.1[q]? = some z := ⟨_, List.getElem?_eq_getElem hil⟩
        have hBv := below_step HBV.out HS.out
        have hCA := Kd.C_below HA1.out hBv
        have hCB := Kd.C_below HB1.out hBv
        obtain ⟨ea, hEa, -⟩ := hCA.2.2 (by omega)
        obtain ⟨eb, hEb, -⟩ := hCB.2.2 (by omega)
        subst hEa
        subst hEb
        have za := C_cell hCA hz
        have zb := C_cell hCB hz
        have ZA := Lib.hid za
        have ZB := Lib.hid zb
        have HV7 := Lib.hid (blk_below HX7.out HS.out)
        have HV8 := Lib.hid (blk_below HX8.out HS.out)
        have r := (blk_cell HV7.out 0).trans (show _ = some (Value.slice (some ea) x.1.length c1) from rfl)
        clear hCA hCB za zb
        go_wp2
        clear r
        refine wp_drawn (R := fun W W' => Below W.heap.size W W') 11 [.val (.pointer (some ⟨g7, 0, none⟩)), .val (.slice (some ea) x.1.length c1), .val (.int .i64 (q : Int)), .val (.pointer (some (ea.add q))), .val (.int .i8 z), .val (.pointer (some ⟨g8, 0, none⟩)), .val (.slice (some eb) x.1.length e1), .val (.int .i64 (q : Int)), .val (.pointer (some (eb.add q))), .val (.int .i8 z), .val (.bool false)] (fun W => Below W8.heap.size W8 W) rfl (by kernel_rfl) (Below.refl _ _).drew ?_ ?_
        · intro vs W hG a1 ha1
          have e7 : a1.eval (.tmp 7) = .pointer (some ⟨g7, 0, none⟩) := eo ha1 (by kernel_rfl)
          have e8 : a1.eval (.tmp 8) = .pointer (some ⟨g8, 0, none⟩) := eo ha1 (by kernel_rfl)
          have e9 : a1.eval (.tmp 9) = .int .i64 (q : Int) := eo ha1 (by kernel_rfl)
          have i99 := ei (d := 99) ha1 0 (by kernel_rfl) rfl rfl (by simp)
          have i100 := ei (d := 100) ha1 1 (by kernel_rfl) rfl rfl (by simp)
          have i101 := ei (d := 101) ha1 2 (by kernel_rfl) rfl rfl (by simp)
          have i102 := ei (d := 102) ha1 3 (by kernel_rfl) rfl rfl (by simp)
          have i103 := ei (d := 103) ha1 4 (by kernel_rfl) rfl rfl (by simp)
          have i104 := ei (d := 104) ha1 5 (by kernel_rfl) rfl rfl (by simp)
          have i105 := ei (d := 105) ha1 6 (by kernel_rfl) rfl rfl (by simp)
          have i106 := ei (d := 106) ha1 7 (by kernel_rfl) rfl rfl (by simp)
          have i107 := ei (d := 107) ha1 8 (by kernel_rfl) rfl rfl (by simp)
          have i108 := ei (d := 108) ha1 9 (by kernel_rfl) rfl rfl (by simp)
          clear ha1
          refine And.intro ?_ (And.intro ?_ (And.intro ?_ (And.intro ?_ (And.intro ?_ (And.intro ?_ (And.intro ?_ (And.intro ?_ (And.intro ?_ (And.intro ?_ (And.intro ?_ (trivial)))))))))))
          · intro hp K hK
            refine g_no rfl ?_
            exact st_field rfl (e7) (by kernel_rfl) (hK _ _ rfl hG (Below.refl _ _))
          · intro hp K hK
            refine g_no rfl ?_
            have e99 : a1.eval (.tmp 99) = _ := i99.trans (hp 0 (by kernel_rfl))
            exact st_load rfl (e99) (ld_cell 39 (by kernel_rfl) ((blk_cell (blk_below HV7.out hG) 0).trans rfl)) (hK _ _ rfl hG (Below.refl _ _))
          · intro hp K hK
            refine g_no rfl ?_
            exact st_move (.inl rfl) (e9) (hK _ _ rfl hG (Below.refl _ _))
          · intro hp K hK
            refine g_no rfl ?_
            have e100 : a1.eval (.tmp 100) = _ := i100.trans (hp 1 (by kernel_rfl))
            have e101 : a1.eval (.tmp 101) = _ := i101.trans (hp 2 (by kernel_rfl))
            exact st_index rfl (e100) (e101) (ixn39 ea x.1.length c1 q hil _) (hK _ _ rfl hG (Below.refl _ _))
          · intro hp K hK
            refine g_no rfl ?_
            have e102 : a1.eval (.tmp 102) = _ := i102.trans (hp 3 (by kernel_rfl))
            exact st_load rfl (e102) (ld_cell 61 (by kernel_rfl) (cw hG ZA.out)) (hK _ _ rfl hG (Below.refl _ _))
          · intro hp K hK
            refine g_no rfl ?_
            exact st_field rfl (e8) (by kernel_rfl) (hK _ _ rfl hG (Below.refl _ _))
          · intro hp K hK
            refine g_no rfl ?_
            have e104 : a1.eval (.tmp 104) = _ := i104.trans (hp 5 (by kernel_rfl))
            exact st_load rfl (e104) (ld_cell 39 (by kernel_rfl) ((blk_cell (blk_below HV8.out hG) 0).trans rfl)) (hK _ _ rfl hG (Below.refl _ _))
          · intro hp K hK
            refine g_no rfl ?_
            exact st_move (.inl rfl) (e9) (hK _ _ rfl hG (Below.refl _ _))
          · intro hp K hK
            refine g_no rfl ?_
            have e105 : a1.eval (.tmp 105) = _ := i105.trans (hp 6 (by kernel_rfl))
            have e106 : a1.eval (.tmp 106) = _ := i106.trans (hp 7 (by kernel_rfl))
            exact st_index rfl (e105) (e106) (ixn39 eb x.1.length e1 q hil _) (hK _ _ rfl hG (Below.refl _ _))
          · intro hp K hK
            refine g_no rfl ?_
            have e107 : a1.eval (.tmp 107) = _ := i107.trans (hp 8 (by kernel_rfl))
            exact st_load rfl (e107) (ld_cell 61 (by kernel_rfl) (cw hG ZB.out)) (hK _ _ rfl hG (Below.refl _ _))
          · intro hp K hK
            refine g_no rfl ?_
            have e103 : a1.eval (.tmp 103) = _ := i103.trans (hp 4 (by kernel_rfl))
            have e108 : a1.eval (.tmp 108) = _ := i108.trans (hp 9 (by kernel_rfl))
            exact st_bin rfl (e103) (e108) (neq_self _) (hK _ _ rfl hG (Below.refl _ _))
        intro vs W hG hp a1 ha1
        have q10 : vs 10 = _ := hp 10 (by decide)
        clear hp
        simp only [fill, Act.put, List.append_eq, List.cons_append, List.nil_append, List.take_succ_cons, List.take_zero, List.setIfInBounds_toArray, List.set_cons_succ, List.set_cons_zero, Nat.reduceAdd, Nat.zero_add, q10] at ha1
        subst ha1
        refine wpList_nil ?_
        clear q10
        have HG := Lib.hid hG
        clear hG
        go_wp2
        exact ⟨loop_frame (by kernel_rfl), ⟨q + 1, by show Value.int .i64 _ = _; simp, by omega, below_step HS.out HG.out⟩, Msr.lt (by omega)⟩
      · have hd : decide ((q : Int) < (x.1.length : Int)) = false := decide_eq_false (by omega)
        obtain rfl : q = x.1.length := by omega
        have HV7 := Lib.hid (blk_below HX7.out HS.out)
        have r := (blk_cell HV7.out 0).trans (show _ = some (Value.slice A1 x.1.length c1) from rfl)
        go_wp2
        clear r HV7
        have HV1 := Lib.hid HS.out
        clear HS hil hi hd
        refine wp_loopS [10, 110, 111, 112, 113, 114, 115, 116, 117, 118, 119, 120, 121, 122, 123, 124, 125, 126, 127] (fun sl W => ∃ q : Nat, sl 10 = .int .i64 (q : Int) ∧ q ≤ x.2.length ∧ Below V.heap.size V W) (fun sl W => Msr (x.2.length : Int) (sl 10)) ⟨0, rfl, Nat.zero_le _, HV1.out⟩ ?_
        intro vs9 W9 a9 hb9' hI
        obtain ⟨q, hsl, hi, hS⟩ := hI
        simp only [setSlots, Act.put, List.setIfInBounds_toArray, List.set_cons_succ, List.set_cons_zero] at hb9'
        subst hb9'
        replace hsl : vs9 10 = .int .i64 (q : Int) := hsl
        rw [hsl]
        clear hsl
        have HS := Lib.hid hS
        clear hS
        by_cases hil : q < x.2.length
        rotate_left
        rotate_left
        · have hd : decide ((q : Int) < (x.2.length : Int)) = true := decide_eq_true (by omega)
          have hinc2 : IntKind.i64.wrap ((q : Int) + 1) = (q : Int) + 1 := IntWalk.i64_in _ (by omega)
          obtain ⟨z, hz⟩ : ∃ z, x.2[q]? = some z := ⟨_, List.getElem?_eq_getElem hil⟩
          have hBv := below_step HBV.out HS.out
          have hCA := Kd.C_below HA2.out hBv
          have hCB := Kd.C_below HB2.out hBv
          obtain ⟨ea, hEa, -⟩ := hCA.2.2 (by omega)
          obtain ⟨eb, hEb, -⟩ := hCB.2.2 (by omega)
          subst hEa
          subst hEb
          have za := C_cell hCA hz
          have zb := C_cell hCB hz
          have ZA := Lib.hid za
          have ZB := Lib.hid zb
          have HV7 := Lib.hid (blk_below HX7.out HS.out)
          have HV8 := Lib.hid (blk_below HX8.out HS.out)
          have r := (blk_cell HV7.out 1).trans (show _ = some (Value.slice (some ea) x.2.length c2) from rfl)
          clear hCA hCB za zb
          go_wp2
          clear r
          refine wp_drawn (R := fun W W' => Below W.heap.size W W') 11 [.val (.pointer (some ⟨g7, 1, none⟩)), .val (.slice (some ea) x.2.length c2), .val (.int .i64 (q : Int)), .val (.pointer (some (ea.add q))), .val (.int .i32 z), .val (.pointer (some ⟨g8, 1, none⟩)), .val (.slice (some eb) x.2.length e2), .val (.int .i64 (q : Int)), .val (.pointer (some (eb.add q))), .val (.int .i32 z), .val (.bool false)] (fun W => Below W9.heap.size W9 W) rfl (by kernel_rfl) (Below.refl _ _).drew ?_ ?_
          · intro vs W hG a1 ha1
            have e7 : a1.eval (.tmp 7) = .pointer (some ⟨g7, 0, none⟩) := eo ha1 (by kernel_rfl)
            have e8 : a1.eval (.tmp 8) = .pointer (some ⟨g8, 0, none⟩) := eo ha1 (by kernel_rfl)
            have e10 : a1.eval (.tmp 10) = .int .i64 (q : Int) := eo ha1 (by kernel_rfl)
            have i117 := ei (d := 117) ha1 0 (by kernel_rfl) rfl rfl (by simp)
            have i118 := ei (d := 118) ha1 1 (by kernel_rfl) rfl rfl (by simp)
            have i119 := ei (d := 119) ha1 2 (by kernel_rfl) rfl rfl (by simp)
            have i120 := ei (d := 120) ha1 3 (by kernel_rfl) rfl rfl (by simp)
            have i121 := ei (d := 121) ha1 4 (by kernel_rfl) rfl rfl (by simp)
            have i122 := ei (d := 122) ha1 5 (by kernel_rfl) rfl rfl (by simp)
            have i123 := ei (d := 123) ha1 6 (by kernel_rfl) rfl rfl (by simp)
            have i124 := ei (d := 124) ha1 7 (by kernel_rfl) rfl rfl (by simp)
            have i125 := ei (d := 125) ha1 8 (by kernel_rfl) rfl rfl (by simp)
            have i126 := ei (d := 126) ha1 9 (by kernel_rfl) rfl rfl (by simp)
            clear ha1
            refine And.intro ?_ (And.intro ?_ (And.intro ?_ (And.intro ?_ (And.intro ?_ (And.intro ?_ (And.intro ?_ (And.intro ?_ (And.intro ?_ (And.intro ?_ (And.intro ?_ (trivial)))))))))))
            · intro hp K hK
              refine g_no rfl ?_
              exact st_field rfl (e7) (by kernel_rfl) (hK _ _ rfl hG (Below.refl _ _))
            · intro hp K hK
              refine g_no rfl ?_
              have e117 : a1.eval (.tmp 117) = _ := i117.trans (hp 0 (by kernel_rfl))
              exact st_load rfl (e117) (ld_cell 40 (by kernel_rfl) ((blk_cell (blk_below HV7.out hG) 1).trans rfl)) (hK _ _ rfl hG (Below.refl _ _))
            · intro hp K hK
              refine g_no rfl ?_
              exact st_move (.inl rfl) (e10) (hK _ _ rfl hG (Below.refl _ _))
            · intro hp K hK
              refine g_no rfl ?_
              have e118 : a1.eval (.tmp 118) = _ := i118.trans (hp 1 (by kernel_rfl))
              have e119 : a1.eval (.tmp 119) = _ := i119.trans (hp 2 (by kernel_rfl))
              exact st_index rfl (e118) (e119) (ixn40 ea x.2.length c2 q hil _) (hK _ _ rfl hG (Below.refl _ _))
            · intro hp K hK
              refine g_no rfl ?_
              have e120 : a1.eval (.tmp 120) = _ := i120.trans (hp 3 (by kernel_rfl))
              exact st_load rfl (e120) (ld_cell 21 (by kernel_rfl) (cw hG ZA.out)) (hK _ _ rfl hG (Below.refl _ _))
            · intro hp K hK
              refine g_no rfl ?_
              exact st_field rfl (e8) (by kernel_rfl) (hK _ _ rfl hG (Below.refl _ _))
            · intro hp K hK
              refine g_no rfl ?_
              have e122 : a1.eval (.tmp 122) = _ := i122.trans (hp 5 (by kernel_rfl))
              exact st_load rfl (e122) (ld_cell 40 (by kernel_rfl) ((blk_cell (blk_below HV8.out hG) 1).trans rfl)) (hK _ _ rfl hG (Below.refl _ _))
            · intro hp K hK
              refine g_no rfl ?_
              exact st_move (.inl rfl) (e10) (hK _ _ rfl hG (Below.refl _ _))
            · intro hp K hK
              refine g_no rfl ?_
              have e123 : a1.eval (.tmp 123) = _ := i123.trans (hp 6 (by kernel_rfl))
              have e124 : a1.eval (.tmp 124) = _ := i124.trans (hp 7 (by kernel_rfl))
              exact st_index rfl (e123) (e124) (ixn40 eb x.2.length e2 q hil _) (hK _ _ rfl hG (Below.refl _ _))
            · intro hp K hK
              refine g_no rfl ?_
              have e125 : a1.eval (.tmp 125) = _ := i125.trans (hp 8 (by kernel_rfl))
              exact st_load rfl (e125) (ld_cell 21 (by kernel_rfl) (cw hG ZB.out)) (hK _ _ rfl hG (Below.refl _ _))
            · intro hp K hK
              refine g_no rfl ?_
              have e121 : a1.eval (.tmp 121) = _ := i121.trans (hp 4 (by kernel_rfl))
              have e126 : a1.eval (.tmp 126) = _ := i126.trans (hp 9 (by kernel_rfl))
              exact st_bin rfl (e121) (e126) (neq_self _) (hK _ _ rfl hG (Below.refl _ _))
          intro vs W hG hp a1 ha1
          have q10 : vs 10 = _ := hp 10 (by decide)
          clear hp
          simp only [fill, Act.put, List.append_eq, List.cons_append, List.nil_append, List.take_succ_cons, List.take_zero, List.setIfInBounds_toArray, List.set_cons_succ, List.set_cons_zero, Nat.reduceAdd, Nat.zero_add, q10] at ha1
          subst ha1
          refine wpList_nil ?_
          clear q10
          have HG := Lib.hid hG
          clear hG
          go_wp2
          exact ⟨loop_frame (by kernel_rfl), ⟨q + 1, by show Value.int .i64 _ = _; simp, by omega, below_step HS.out HG.out⟩, Msr.lt (by omega)⟩
        · have hd : decide ((q : Int) < (x.2.length : Int)) = false := decide_eq_false (by omega)
          obtain rfl : q = x.2.length := by omega
          have HV7 := Lib.hid (blk_below HX7.out HS.out)
          have r := (blk_cell HV7.out 1).trans (show _ = some (Value.slice A2 x.2.length c2) from rfl)
          go_wp2
          clear r HV7
          exact ⟨loop_frame (by kernel_rfl), ⟨j + 1, by show Value.int .i64 _ = _; simp, by omega, below_step HSo.out (below_step HBV.out HS.out)⟩, Msr.lt (by omega)⟩
end Go.Proofs.Ytieoklpgnmbpjaa.Gr
