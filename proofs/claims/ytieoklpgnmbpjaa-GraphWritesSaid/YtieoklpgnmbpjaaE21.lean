/- A network is written and read: it lives. -/
import Derived.Test.YtieoklpgnmbpjaaE20
import Derived.Test.YtieoklpgnmbpjaaE19
namespace Go.Proofs.Ytieoklpgnmbpjaa.Gr
open Go.RowKit Dr
open Go.Proofs.YtieoklpgnmbpjaaW.PrintWords (Kd Kd.C Kd.R Kd.M_step Kd.C_below Kd.C_get Kd.R_below Kd.R_reads Kd.R_reads' Kd.R_types Kd.R_step Kd.R_alloc Kd.R_drew Kd.R_lower add_field Kd.R_append Kd.R_bound Kd.R_move Kd.R_mono Kd.R_nil Kd.R_set Kd.R_ne Kd.R_over' Kd.R_typed Kd.C_nil Kd.R_slice Kd.R_append_rows Kd.R_form ReadsRow Kd.C_string)
set_option linter.unusedVariables false
set_option linter.unusedSimpArgs false
set_option maxRecDepth 100000
def ND : List Int := [9, 0, 0, 0, 0, 0, 0, 0, 0, 0, 0, 0, 0, 0, 0, 0, 0, 0, 0, 5, 0, 0, 0, 0, 0, 0]
theorem live_lg : lgB [] [ND] = (false, false) := by decide
theorem live_ok : gok 1 2 3 1 [] [ND] = true := by decide
theorem live_len : (gb 1 2 3 1 [] [ND]).length = 136 := by rfl
theorem live_good : goodG 1 2 3 1 [] [ND] := ⟨by decide, by decide, fun x hx => (nomatch hx), live_ok⟩
theorem nrow_nums (x : List Int) : nrow (nums x) = nrow x := rfl
theorem C_nums {W : World} {A : Option Addr} {n : Nat} {ns : List (List Int)} (h : kNd.C W A n (ns.map nums)) : kNd.C W A n ns := by
  refine ⟨by have := h.1; rwa [List.length_map] at this, h.2.1, fun hp => ?_⟩
  obtain ⟨ad, e, hc⟩ := h.2.2 hp
  refine ⟨ad, e, fun j p hj => ?_⟩
  obtain ⟨c, h1, h2, h3⟩ := hc j (nums p) (by rw [List.getElem?_map, hj]; rfl)
  exact ⟨c, h1, h2, h3⟩
/-- What writing a good network leaves. -/
theorem WQ_good {w : World} {a b c o : Int} {cs : List (List Int × List Int)} {ns : List (List Int)} {e : Ending} {w' : World} (h : WQ w a b c o cs ns e w') (hl : (lgB cs ns).1 = false) (h2 : (lgB cs ns).2 = false) (hok : gok a b c o cs ns = true) (hn : (gb a b c o cs ns).length ≤ 1048576) : Below w.heap.size w w' ∧ ∃ v, e = .returned (.tuple #[v, .int .i64 0]) ∧ Kd.R (Kd.int .u8) 5 w' w.heap.size (fun _ => True) v (gb a b c o cs ns) := by
  refine ⟨h.1, ?_⟩
  have h3 := h.2
  rw [if_neg (by rw [hl, hok]; simp; omega), if_neg (by rw [h2]; decide)] at h3
  exact h3
/-- What reading good bytes leaves. -/
theorem PQ_good {w : World} {a b c o : Int} {cs : List (List Int × List Int)} {ns : List (List Int)} {s2 : List Int × Int} {e : Ending} {w' : World} (h : PQ w a b c o (cs, s2) (ns.map nums, ([], 0)) e w') : Below w.heap.size w w' ∧ ∃ u v, e = .returned (.tuple #[.agg #[.int .i64 a, .int .i64 b, .int .i64 c, u, v, .int .i64 o], .int .i64 0]) ∧ kCo.R 42 w' w.heap.size (fun _ => True) u cs ∧ kNd.R 55 w' w.heap.size (fun _ => True) v (ns.map nums) := by
  refine ⟨h.1, ?_⟩
  have h3 := h.2
  exact h3
theorem parse_good {a b c o : Int} {cs : List (List Int × List Int)} {ns : List (List Int)} (hg : goodG a b c o cs ns) (hx : (gb a b c o cs ns).length ≤ 1048576) (v : Value) (w : World) (base : Nat) (hR : Kd.R (Kd.int .u8) 5 w base (fun _ => True) v (gb a b c o cs ns)) :
    Calls Try.prog 10 #[v] w fun e w' => Below w.heap.size w w' ∧ ∃ u v, e = .returned (.tuple #[.agg #[.int .i64 a, .int .i64 b, .int .i64 c, u, v, .int .i64 o], .int .i64 0]) ∧ kCo.R 42 w' w.heap.size (fun _ => True) u cs ∧ kNd.R 55 w' w.heap.size (fun _ => True) v (ns.map nums) := by
  have hln : 28 ≤ (gb a b c o cs ns).length := by unfold gb hd6 MG; simp only [List.length_append, flat_len, List.length_cons, List.length_nil]; omega
  obtain ⟨g, cap, rfl, hb, hlt, -⟩ := Kd.R_form hR (by omega)
  have hR2 := Kd.R_reads' hR
  obtain ⟨s, hH, h1, h2⟩ := back hg []
  rw [List.append_nil] at hH
  have := parse_is ⟨g, 0, none⟩ cap (gb a b c o cs ns) w (okB_gb a b c o cs ns) hln hx (by unfold gb MG; rfl) hR2.2.1 hR2.2.2 hlt a b c o _ _ s hH
  rw [h1] at this
  simp only [List.append_nil] at this h2
  rw [h2] at this
  exact this.mono fun e w' h => PQ_good h
theorem nd_one {W : World} {g : Nat} {x : List Int} (h : W.heap[g]? = some (.cells (nrow x).toArray 55 (0, 0))) : kNd.C W (some ⟨g, 0, none⟩) 1 [x] :=
  Go.Proofs.YtieoklpgnmbpjaaW.PrintWords.ReadsRow.imp_ (row_one (cs := nrow x) h) (Below.refl _ _) (fun p c hp => by obtain ⟨rfl, rfl⟩ := hp; rfl)
set_option maxHeartbeats 16000000 in
theorem lives_is (w : World) : Calls Try.prog 9 #[] w fun e w' => e = .returned (.bool true) ∧ Below w.heap.size w w' := by
  go_enter Try.func9, Try.ntmps9
  apply wp_seq_k; intro K1 hK1; have HK1 := Lib.hid hK1; clear hK1
  go_wp2
  refine HK1.out _ _ ?_; clear HK1
  apply wp_seq_k; intro K1 hK1; have HK1 := Lib.hid hK1; clear hK1
  go_wp2
  refine HK1.out _ _ ?_; clear HK1
  have hn1 := blk_alloc (blk_new w (.cells #[.int .i64 9, .int .i64 0, .int .i64 0, .int .i64 0, .int .i64 0, .int .i64 0, .int .i64 0, .int .i64 0, .int .i64 0, .int .i64 0, .int .i64 0, .int .i64 0, .int .i64 0, .int .i64 0, .int .i32 0, .int .i32 0, .int .i64 0, .int .i64 0, .int .i64 0, .int .i64 5, .int .i64 0, .int .i64 0, .int .i64 0, .int .i64 0, .int .i64 0, .int .i64 0] 55)) (.cells #[.int .i64 1, .int .i64 2, .int .i64 3, .slice none 0 0, .slice (some ⟨w.heap.size, 0, none⟩) 1 1, .int .i64 1] 26)
  have hn2 := blk_new (w.alloc (.cells #[.int .i64 9, .int .i64 0, .int .i64 0, .int .i64 0, .int .i64 0, .int .i64 0, .int .i64 0, .int .i64 0, .int .i64 0, .int .i64 0, .int .i64 0, .int .i64 0, .int .i64 0, .int .i64 0, .int .i32 0, .int .i32 0, .int .i64 0, .int .i64 0, .int .i64 0, .int .i64 5, .int .i64 0, .int .i64 0, .int .i64 0, .int .i64 0, .int .i64 0, .int .i64 0] 55)) (.cells #[.int .i64 1, .int .i64 2, .int .i64 3, .slice none 0 0, .slice (some ⟨w.heap.size, 0, none⟩) 1 1, .int .i64 1] 26)
  have hs2 : (w.alloc (.cells #[.int .i64 9, .int .i64 0, .int .i64 0, .int .i64 0, .int .i64 0, .int .i64 0, .int .i64 0, .int .i64 0, .int .i64 0, .int .i64 0, .int .i64 0, .int .i64 0, .int .i64 0, .int .i64 0, .int .i32 0, .int .i32 0, .int .i64 0, .int .i64 0, .int .i64 0, .int .i64 5, .int .i64 0, .int .i64 0, .int .i64 0, .int .i64 0, .int .i64 0, .int .i64 0] 55)).heap.size = w.heap.size + 1 := by simp
  rw [hs2] at hn2
  have hB1 := below_alloc (below_alloc (Below.refl w.heap.size w) (.cells #[.int .i64 9, .int .i64 0, .int .i64 0, .int .i64 0, .int .i64 0, .int .i64 0, .int .i64 0, .int .i64 0, .int .i64 0, .int .i64 0, .int .i64 0, .int .i64 0, .int .i64 0, .int .i64 0, .int .i32 0, .int .i32 0, .int .i64 0, .int .i64 0, .int .i64 0, .int .i64 5, .int .i64 0, .int .i64 0, .int .i64 0, .int .i64 0, .int .i64 0, .int .i64 0] 55)) (.cells #[.int .i64 1, .int .i64 2, .int .i64 3, .slice none 0 0, .slice (some ⟨w.heap.size, 0, none⟩) 1 1, .int .i64 1] 26)
  clear hs2
  generalize (w.alloc (.cells #[.int .i64 9, .int .i64 0, .int .i64 0, .int .i64 0, .int .i64 0, .int .i64 0, .int .i64 0, .int .i64 0, .int .i64 0, .int .i64 0, .int .i64 0, .int .i64 0, .int .i64 0, .int .i64 0, .int .i32 0, .int .i32 0, .int .i64 0, .int .i64 0, .int .i64 0, .int .i64 5, .int .i64 0, .int .i64 0, .int .i64 0, .int .i64 0, .int .i64 0, .int .i64 0] 55)).alloc (.cells #[.int .i64 1, .int .i64 2, .int .i64 3, .slice none 0 0, .slice (some ⟨w.heap.size, 0, none⟩) 1 1, .int .i64 1] 26) = W1 at *
  have hNC : kNd.C W1 (some ⟨w.heap.size, 0, none⟩) 1 [ND] := nd_one hn1
  have HN := Lib.hid hNC
  have HX := Lib.hid hn2
  have HB := Lib.hid hB1
  clear hn1 hn2 hB1 hNC
  have p0 := (blk_cell HX.out 0).trans (show _ = some (Value.int .i64 1) from rfl)
  have p1 := (blk_cell HX.out 1).trans (show _ = some (Value.int .i64 2) from rfl)
  have p2 := (blk_cell HX.out 2).trans (show _ = some (Value.int .i64 3) from rfl)
  have p3 := (blk_cell HX.out 3).trans (show _ = some (Value.slice none 0 0) from rfl)
  have p4 := (blk_cell HX.out 4).trans (show _ = some (Value.slice (some ⟨w.heap.size, 0, none⟩) 1 1) from rfl)
  have p5 := (blk_cell HX.out 5).trans (show _ = some (Value.int .i64 1) from rfl)
  apply wp_seq_k; intro K1 hK1; have HK1 := Lib.hid hK1; clear hK1
  go_wp2_with (go_at_call 7; refine (write_is 1 2 3 1 none (some ⟨w.heap.size, 0, none⟩) 0 1 [] [ND] _ (Kd.C_nil _ _) HN.out (fun x hx => (nomatch hx)) (fun x hx => by obtain rfl := List.mem_singleton.1 hx; decide)).mono ?_; rintro e W2 hq; obtain ⟨hB2, v2, rfl, hR2⟩ := WQ_good hq (by rw [live_lg]) (by rw [live_lg]) live_ok (by rw [live_len]; decide); obtain ⟨A2, c2, rfl⟩ := Kd.R_slice hR2; have HR2 := Lib.hid hR2; have HB2 := Lib.hid hB2; clear hq hR2 hB2)
  refine HK1.out _ _ ?_; clear HK1
  clear p0 p1 p2 p3 p4 p5
  apply wp_seq_k; intro K1 hK1; have HK1 := Lib.hid hK1; clear hK1
  go_wp2_with (first | ((with_reducible refine gate_builtin (b := .append) (xs := #[.tmp 16, .tmp 17]) rfl ?_); at_builtin; refine Kd.R_append_rows (Kd.int .u8) (Rr := (Kd.int .u8).K (W2.alloc (.cells #[] 5))) (w0 := W2.alloc (.cells #[] 5)) W2.heap.size rfl (.tmp 16) (.tmp 17) 28 5 (.int .u8 0) 1 rfl Try.underlying28 info5 rfl (by decide) (by omega) (.slice (some ⟨W2.heap.size, 0, none⟩) 0 0) [] (gb 1 2 3 1 [] [ND]) A2 (gb 1 2 3 1 [] [ND]).length c2 (fun _ => True) (fun _ => False) rfl rfl (R_fresh (k := .u8) (xs := []) (blk_new W2 (.cells #[] 5)) (Nat.le_refl _) (by decide)) (Kd.C_below (Kd.R_reads' HR2.out).2.2 (below_alloc (Below.refl _ _) _)) (fun _ _ h => h) (fun _ hk => hk.elim) (fun _ _ => trivial) (Below.refl _ _) (below_alloc (Below.refl _ _) _).size (by rw [live_len]; decide) ?_; intro v3 w3 ho3 hb3 hg3 hat3; have HR3 := Lib.hid ho3; have HB3 := Lib.hid (Below.trans (below_alloc (Below.refl W2.heap.size W2) (.cells #[] 5)) hb3); clear ho3 hb3 hg3 hat3) | (go_at_call 10; refine (parse_good live_good (by rw [live_len]; decide) v3 w3 W2.heap.size HR3.out).mono ?_; rintro e W4 ⟨hB4, u4, v4, rfl, hu4, hv4⟩; obtain ⟨Au, cu, rfl⟩ := Kd.R_slice hu4; obtain ⟨Av, cv, rfl⟩ := Kd.R_slice hv4; have HU := Lib.hid hu4; have HV := Lib.hid hv4; have HB4 := Lib.hid hB4; clear hu4 hv4 hB4))
  refine HK1.out _ _ ?_; clear HK1
  have hBa : Below W1.heap.size W1 W4 := below_step (below_step HB2.out HB3.out) HB4.out
  have hx4 := blk_alloc (blk_below HX.out hBa) (.cells #[.int .i64 1, .int .i64 2, .int .i64 3, .slice Au 0 cu, .slice Av 1 cv, .int .i64 1] 26)
  have hp4 := blk_new W4 (.cells #[.int .i64 1, .int .i64 2, .int .i64 3, .slice Au 0 cu, .slice Av 1 cv, .int .i64 1] 26)
  have hN4 := Kd.C_below (Kd.C_below HN.out hBa) (below_alloc (Below.refl _ _) (.cells #[.int .i64 1, .int .i64 2, .int .i64 3, .slice Au 0 cu, .slice Av 1 cv, .int .i64 1] 26))
  have hU4 := Kd.C_below (Kd.R_reads' HU.out).2.2 (below_alloc (Below.refl _ _) (.cells #[.int .i64 1, .int .i64 2, .int .i64 3, .slice Au 0 cu, .slice Av 1 cv, .int .i64 1] 26))
  have hV4 := C_nums (Kd.C_below (Kd.R_reads' HV.out).2.2 (below_alloc (Below.refl _ _) (.cells #[.int .i64 1, .int .i64 2, .int .i64 3, .slice Au 0 cu, .slice Av 1 cv, .int .i64 1] 26)))
  have hBf : Below w.heap.size w (W4.alloc (.cells #[.int .i64 1, .int .i64 2, .int .i64 3, .slice Au 0 cu, .slice Av 1 cv, .int .i64 1] 26)) := below_alloc (below_step HB.out hBa) _
  change Code.wp _ _ _ _ (W4.alloc (.cells #[.int .i64 1, .int .i64 2, .int .i64 3, .slice Au 0 cu, .slice Av 1 cv, .int .i64 1] 26))
  generalize W4.alloc (.cells #[.int .i64 1, .int .i64 2, .int .i64 3, .slice Au 0 cu, .slice Av 1 cv, .int .i64 1] 26) = W5 at *
  have HX5 := Lib.hid hx4
  have HP5 := Lib.hid hp4
  have HN5 := Lib.hid hN4
  have HU5 := Lib.hid hU4
  have HV5 := Lib.hid hV4
  have HBF := Lib.hid hBf
  clear hBa hx4 hp4 hN4 hU4 hV4 hBf HU HV HN HX HB2 HB3 HB4 HB
  have p0 := (blk_cell HX5.out 0).trans (show _ = some (Value.int .i64 1) from rfl)
  have p1 := (blk_cell HX5.out 1).trans (show _ = some (Value.int .i64 2) from rfl)
  have p2 := (blk_cell HX5.out 2).trans (show _ = some (Value.int .i64 3) from rfl)
  have p3 := (blk_cell HX5.out 3).trans (show _ = some (Value.slice none 0 0) from rfl)
  have p4 := (blk_cell HX5.out 4).trans (show _ = some (Value.slice (some ⟨w.heap.size, 0, none⟩) 1 1) from rfl)
  have p5 := (blk_cell HX5.out 5).trans (show _ = some (Value.int .i64 1) from rfl)
  have q0 := (blk_cell HP5.out 0).trans (show _ = some (Value.int .i64 1) from rfl)
  have q1 := (blk_cell HP5.out 1).trans (show _ = some (Value.int .i64 2) from rfl)
  have q2 := (blk_cell HP5.out 2).trans (show _ = some (Value.int .i64 3) from rfl)
  have q3 := (blk_cell HP5.out 3).trans (show _ = some (Value.slice Au 0 cu) from rfl)
  have q4 := (blk_cell HP5.out 4).trans (show _ = some (Value.slice Av 1 cv) from rfl)
  have q5 := (blk_cell HP5.out 5).trans (show _ = some (Value.int .i64 1) from rfl)
  have hll := live_len
  go_wp2_with (go_at_call 11; refine (same_is 1 2 3 1 Au Av none (some ⟨w.heap.size, 0, none⟩) cu cv 0 1 [] [ND] _ HU5.out HV5.out (Kd.C_nil _ _) HN5.out).mono ?_; rintro e W6 ⟨rfl, hB6⟩)
  go_wp2
  go_ret
  exact ⟨rfl, below_step HBF.out hB6⟩
end Go.Proofs.Ytieoklpgnmbpjaa.Gr
