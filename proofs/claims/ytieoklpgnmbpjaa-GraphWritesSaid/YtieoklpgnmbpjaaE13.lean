/- The writer: a constant is written. -/
import Derived.Test.YtieoklpgnmbpjaaE12
namespace Go.Proofs.Ytieoklpgnmbpjaa.Gr
open Go.RowKit Dr
open Go.Proofs.YtieoklpgnmbpjaaW.PrintWords (Kd Kd.C Kd.R Kd.M_step Kd.C_below Kd.C_get Kd.R_below Kd.R_reads Kd.R_reads' Kd.R_types Kd.R_step Kd.R_alloc Kd.R_drew Kd.R_lower add_field Kd.R_append Kd.R_bound Kd.R_move Kd.R_mono Kd.R_nil Kd.R_set Kd.R_ne Kd.R_over' Kd.R_typed Kd.C_nil Kd.R_slice Kd.R_append_rows Kd.R_form ReadsRow Kd.C_string)
set_option linter.unusedVariables false
set_option linter.unusedSimpArgs false
set_option maxRecDepth 100000
theorem ixn39 (ad : Addr) (n c i : Nat) (h : i < n) (W : World) : (Instr.indexAt 39 (.slice (some ad) n c) (.int .i64 (i : Int))).run Try.prog W = .ok (.pointer (some (ad.add i))) W := by
  have e : (sizeOf (Try.prog.elem 39)).run Try.prog W = .ok 1 W := by kernel_rfl
  rw [run_indexAt_slice W 39 ad n c .i64 i (by kernel_rfl), if_pos ⟨by omega, by omega⟩, e]
  simp only [Result.andThen_ok, Int.toNat_natCast, Nat.mul_one]
theorem ixn40 (ad : Addr) (n c i : Nat) (h : i < n) (W : World) : (Instr.indexAt 40 (.slice (some ad) n c) (.int .i64 (i : Int))).run Try.prog W = .ok (.pointer (some (ad.add i))) W := by
  have e : (sizeOf (Try.prog.elem 40)).run Try.prog W = .ok 1 W := by kernel_rfl
  rw [run_indexAt_slice W 40 ad n c .i64 i (by kernel_rfl), if_pos ⟨by omega, by omega⟩, e]
  simp only [Result.andThen_ok, Int.toNat_natCast, Nat.mul_one]
def cb (x : List Int × List Int) : List Int := w32 (x.1.length : Int) ++ x.1.map (· % 256) ++ w32 (x.2.length : Int) ++ x.2.flatMap w32
def cok (x : List Int × List Int) : Bool := in32 (x.1.length : Int) && in32 (x.2.length : Int) && x.2.all in32
theorem map_snoc' {f : Int → Int} {xs : List Int} {i : Nat} {x : Int} (h : xs[i]? = some x) : (xs.take (i + 1)).map f = (xs.take i).map f ++ [f x] := map_snoc h
set_option maxHeartbeats 16000000 in
theorem wcon_is (b g : Nat) (A1 A2 : Option Addr) (c1 c2 : Nat) (x : List Int × List Int) (bs : List Int) (ok : Bool) (v : Value) (w : World) (hb : b ≤ g) (hbw : b ≤ w.heap.size) (hl : bs.length + x.1.length + 4 * x.2.length + 8 ≤ 1099511627776) (H32 : ∀ z ∈ x.2, -2147483648 ≤ z ∧ z ≤ 2147483647) (hS0 : WS b g w v ok bs) (hC1 : ∀ W', Wr b w W' → Kd.C (Kd.int .i8) W' A1 x.1.length x.1) (hC2 : ∀ W', Wr b w W' → Kd.C (Kd.int .i32) W' A2 x.2.length x.2) :
    Calls Try.prog 14 #[.pointer (some ⟨g, 0, none⟩), .agg #[.slice A1 x.1.length c1, .slice A2 x.2.length c2]] w fun e w' => e = .returned (.tuple #[]) ∧ Wr b w w' ∧ ∃ v', WS b g w' v' (ok && cok x) (bs ++ cb x) := by
  have HC1 := Lib.hid hC1
  have HC2 := Lib.hid hC2
  have hB1 : Below w.heap.size w (w.alloc (.cells #[.slice A1 x.1.length c1, .slice A2 x.2.length c2] 42)) := below_alloc (Below.refl _ _) _
  have hS1 := Lib.hid (hS0.below hB1)
  have hW1 := Lib.hid (Wr.of_below hB1 hbw)
  have hbx := Lib.hid (blk_new w (.cells #[.slice A1 x.1.length c1, .slice A2 x.2.length c2] 42))
  have hsz := hB1.size
  clear hC1 hC2 hS0 hB1
  obtain ⟨xb, xw⟩ := x
  simp only at *
  go_enter Try.func14, Try.ntmps14
  apply wp_seq_k; intro K1 hK1; have HK1 := Lib.hid hK1; clear hK1
  go_wp2
  refine HK1.out _ _ ?_; clear HK1
  generalize w.alloc (.cells #[.slice A1 xb.length c1, .slice A2 xw.length c2] 42) = W1 at *
  have hgx : w.heap.size < W1.heap.size := blk_lt hbx.out
  generalize w.heap.size = gx at *
  have c0 : W1.cell? ⟨gx, 0, none⟩ = some (.slice A1 xb.length c1) := (blk_cell hbx.out 0).trans rfl
  have hb1 : b ≤ W1.heap.size := Nat.le_trans hbw hsz
  apply wp_seq_k; intro K1 hK1; have HK1 := Lib.hid hK1; clear hK1
  go_wp2_with (go_at_call 13; refine (put_is b g (some ⟨W1.heap.size, 0, none⟩) 1 [(xb.length : Int)] _ _ _ _ hb (Nat.le_trans hb1 (below_alloc (Below.refl _ _) _).size) (by simp; omega) (hS1.out.below (below_alloc (Below.refl _ _) _)) (fun W' hW => C_mk (xs := [(xb.length : Int)]) (hW.oth _ _ _ (blk_new _ _) (by decide) (by decide)) (by simp))).mono ?_; rintro e W2 ⟨rfl, hWa, vW2, hSa⟩)
  have hX2 : Wr b W1 W2 := (Wr.of_below (below_alloc (Below.refl _ _) _) hb1).trans hWa
  simp only [List.all_cons, List.all_nil, Bool.and_true, List.flatMap_cons, List.flatMap_nil, List.append_nil] at hSa
  have hbx2 := hX2.oth _ _ _ hbx.out (by decide) (by decide)
  have c0' : W2.cell? ⟨gx, 0, none⟩ = some (.slice A1 xb.length c1) := (blk_cell hbx2 0).trans rfl
  have hS2 := Lib.hid (And.intro hX2 hSa)
  clear hWa hX2 hSa hbx2 c0 hS1
  refine HK1.out _ _ ?_; clear HK1
  apply wp_seq_k; intro K1 hK1; have HK1 := Lib.hid hK1; clear hK1
  go_wp2
  refine wp_loopS [5, 17, 18, 19, 20, 21, 22, 23, 24, 25, 26, 27, 28, 29, 30, 31, 32] (fun sl W => ∃ i : Nat, sl 17 = .int .i64 (i : Int) ∧ i ≤ xb.length ∧ ∃ u, (Wr b W1 W ∧ WS b g W u (ok && in32 (xb.length : Int)) (bs ++ w32 (xb.length : Int) ++ (xb.take i).map (· % 256)))) (fun sl W => Msr (xb.length : Int) (sl 17)) ⟨0, rfl, Nat.zero_le _, _, hS2.out.1, by simpa using hS2.out.2⟩ ?_
  intro vs3 W3 a3 hb3' hI
  obtain ⟨i, hsl, hi, u, hS⟩ := hI
  simp only [setSlots, Act.put, List.setIfInBounds_toArray, List.set_cons_succ, List.set_cons_zero] at hb3'
  subst hb3'
  replace hsl : vs3 17 = .int .i64 (i : Int) := hsl
  rw [hsl]
  clear hsl
  have HS := Lib.hid hS
  clear hS
  by_cases hil : i < xb.length
  rotate_left
  rotate_left
  · have hd : decide ((i : Int) < (xb.length : Int)) = true := decide_eq_true (by omega)
    have hinc : IntKind.i64.wrap ((i : Int) + 1) = (i : Int) + 1 := IntWalk.i64_in _ (by omega)
    obtain ⟨z, hx⟩ : ∃ z, xb[i]? = some z := ⟨_, List.getElem?_eq_getElem hil⟩
    have hWw := hW1.out.trans HS.out.1
    obtain ⟨ad, hAd, -⟩ := (HC1.out _ hWw).2.2 (by omega)
    subst hAd
    have hcell : W3.cell? (ad.add i) = some (.int .i8 z) := C_cell (HC1.out _ hWw) hx
    have hix : ∀ W, (Instr.indexAt 39 (.slice (some ad) xb.length c1) (.int .i64 (i : Int))).run Try.prog W = .ok (.pointer (some (ad.add i))) W := fun W => ixn39 ad xb.length c1 i hil W
    have cg0 : W3.cell? ⟨g, 0, none⟩ = some u := (blk_cell HS.out.2.blk 0).trans rfl
    have hcv : ∀ W, (convert 61 5 (.int .i8 z)).run Try.prog W = .ok (.int .u8 (z % 256)) W := fun W => by rw [show (convert 61 5 (.int .i8 z)).run Try.prog W = .ok (.int .u8 (IntKind.u8.wrap z)) W by kernel_rfl, IntKind.wrap_u8]
    have hbW := Nat.le_trans hb1 HS.out.1.bel.size
    have HX := Lib.hid hx
    have HWW := Lib.hid hWw
    clear hx hWw
    go_wp2_with ((with_reducible refine gate_builtin (b := .append) (xs := #[.tmp 25, .tmp 28]) rfl ?_); at_builtin; refine ap_append (w0 := W3.alloc (.cells (([z % 256]).map (Value.int .u8)).toArray 5)) b rfl (.tmp 25) (.tmp 28) rfl u (bs ++ w32 (xb.length : Int) ++ (xb.take i).map (· % 256)) [z % 256] W3.heap.size 1 rfl rfl (AP_below HS.out.2.r (below_alloc (Below.refl _ _) _)) (C_mk (xs := [z % 256]) (blk_new _ _) (by simp)) (by decide) (Below.refl _ _) (Nat.le_trans hbW (below_alloc (Below.refl _ _) _).size) (by rw [List.length_append, List.length_append, w32_len, List.length_map, List.length_take]; omega) ?_; intro v9 w3 ho3 hb3 hg3; obtain ⟨A9, n9, c9, rfl⟩ := R_slc ho3; have HSA := HS.out.2.below (below_alloc (Below.refl _ _) (.cells (([z % 256]).map (Value.int .u8)).toArray 5)); have HS3 := Lib.hid (HSA.setb hg3 ho3); have hk3 := (hg3.block _ (blk_lt HSA.blk) (AP_ne HSA.r HSA.blk (by decide))).trans HSA.blk; have HW3 := Lib.hid (((HS.out.1.trans (Wr.of_below (below_alloc (Below.refl _ _) (.cells (([z % 256]).map (Value.int .u8)).toArray 5)) hbW)).trans (Wr.grown hb3 hg3 (AP_typed HSA.r))).trans (Wr.set hk3 rfl hb 0 (.slice A9 n9 c9))); have c3 := (blk_cell hk3 0).trans (show _ = some u from rfl); have f3 := blk_frozen hk3 0; clear ho3 hb3 hg3 hk3 HSA)
    exact ⟨loop_frame (by kernel_rfl), ⟨i + 1, by show Value.int .i64 _ = _; simp, by omega, _, HW3.out, by rw [map_snoc' HX.out, ← List.append_assoc]; exact HS3.out⟩, Msr.lt (by omega)⟩
  · have hd : decide ((i : Int) < (xb.length : Int)) = false := decide_eq_false (by omega)
    obtain rfl : i = xb.length := by omega
    rw [List.take_length] at HS
    go_wp2
    refine HK1.out _ _ ?_; clear HK1
    have hbx3 := HS.out.1.oth _ _ _ hbx.out (by decide) (by decide)
    have c1' : W3.cell? ⟨gx, 1, none⟩ = some (.slice A2 xw.length c2) := (blk_cell hbx3 1).trans rfl
    have hb3 := Nat.le_trans hb1 HS.out.1.bel.size
    clear hbx3
    apply wp_seq_k; intro K1 hK1; have HK1 := Lib.hid hK1; clear hK1
    go_wp2_with (go_at_call 13; refine (put_is b g (some ⟨W3.heap.size, 0, none⟩) 1 [(xw.length : Int)] _ _ _ _ hb (Nat.le_trans hb3 (below_alloc (Below.refl _ _) _).size) (by simp [w32_len]; omega) (HS.out.2.below (below_alloc (Below.refl _ _) _)) (fun W' hW => C_mk (xs := [(xw.length : Int)]) (hW.oth _ _ _ (blk_new _ _) (by decide) (by decide)) (by simp))).mono ?_; rintro e W4 ⟨rfl, hWa, vW4, hSa⟩)
    have hX4 : Wr b W1 W4 := HS.out.1.trans ((Wr.of_below (below_alloc (Below.refl _ _) _) hb3).trans hWa)
    simp only [List.all_cons, List.all_nil, Bool.and_true, List.flatMap_cons, List.flatMap_nil, List.append_nil] at hSa
    have hbx4 := hX4.oth _ _ _ hbx.out (by decide) (by decide)
    have c14 : W4.cell? ⟨gx, 1, none⟩ = some (.slice A2 xw.length c2) := (blk_cell hbx4 1).trans rfl
    have hS4 := Lib.hid (And.intro hX4 hSa)
    clear hWa hX4 hSa hbx4 c1' HS c0' hS2
    refine HK1.out _ _ ?_; clear HK1
    go_wp2
    refine wp_loopS [7, 42, 43, 44, 45, 46, 47, 48, 49, 50, 51] (fun sl W => ∃ i : Nat, sl 42 = .int .i64 (i : Int) ∧ i ≤ xw.length ∧ ∃ u, (Wr b W1 W ∧ WS b g W u (ok && in32 (xb.length : Int) && in32 (xw.length : Int) && (xw.take i).all in32) (bs ++ w32 (xb.length : Int) ++ xb.map (· % 256) ++ w32 (xw.length : Int) ++ (xw.take i).flatMap w32))) (fun sl W => Msr (xw.length : Int) (sl 42)) ⟨0, rfl, Nat.zero_le _, _, hS4.out.1, by simpa using hS4.out.2⟩ ?_
    intro vs5 W5 a5 hb5' hI
    obtain ⟨i, hsl, hi, u, hS⟩ := hI
    simp only [setSlots, Act.put, List.setIfInBounds_toArray, List.set_cons_succ, List.set_cons_zero] at hb5'
    subst hb5'
    replace hsl : vs5 42 = .int .i64 (i : Int) := hsl
    rw [hsl]
    clear hsl
    have HS := Lib.hid hS
    clear hS
    by_cases hil : i < xw.length
    rotate_left
    · have hd : decide ((i : Int) < (xw.length : Int)) = false := decide_eq_false (by omega)
      obtain rfl : i = xw.length := by omega
      rw [List.take_length] at HS
      go_wp2
      go_end0
      refine ⟨rfl, hW1.out.trans HS.out.1, u, ?_⟩
      have h := HS.out.2
      unfold cok cb
      simpa only [Bool.and_assoc, List.append_assoc] using h
    · have hd : decide ((i : Int) < (xw.length : Int)) = true := decide_eq_true (by omega)
      have hinc : IntKind.i64.wrap ((i : Int) + 1) = (i : Int) + 1 := IntWalk.i64_in _ (by omega)
      obtain ⟨z, hx⟩ : ∃ z, xw[i]? = some z := ⟨_, List.getElem?_eq_getElem hil⟩
      have hWw := hW1.out.trans HS.out.1
      obtain ⟨ad, hAd, -⟩ := (HC2.out _ hWw).2.2 (by omega)
      subst hAd
      have hcell : W5.cell? (ad.add i) = some (.int .i32 z) := C_cell (HC2.out _ hWw) hx
      have hix : ∀ W, (Instr.indexAt 40 (.slice (some ad) xw.length c2) (.int .i64 (i : Int))).run Try.prog W = .ok (.pointer (some (ad.add i))) W := fun W => ixn40 ad xw.length c2 i hil W
      have hz := H32 z (List.mem_of_getElem? hx)
      have hcv : ∀ W, (convert 21 3 (.int .i32 z)).run Try.prog W = .ok (.int .i64 z) W := fun W => by rw [show (convert 21 3 (.int .i32 z)).run Try.prog W = .ok (.int .i64 (IntKind.i64.wrap z)) W by kernel_rfl, IntWalk.i64_in _ (by omega)]
      have hbW := Nat.le_trans hb1 HS.out.1.bel.size
      have HX := Lib.hid hx
      clear hx hWw
      go_wp2_with (go_at_call 13; refine (put_is b g (some ⟨W5.heap.size, 0, none⟩) 1 [z] _ _ _ _ hb (Nat.le_trans hbW (below_alloc (Below.refl _ _) _).size) (by simp only [List.length_append, w32_len, flat_len, List.length_map, List.length_take, List.length_cons, List.length_nil]; omega) (HS.out.2.below (below_alloc (Below.refl _ _) _)) (fun W' hW => C_mk (xs := [z]) (hW.oth _ _ _ (blk_new _ _) (by decide) (by decide)) (by simp))).mono ?_; rintro e W6 ⟨rfl, hWa, vW6, hSa⟩)
      simp only [List.all_cons, List.all_nil, Bool.and_true, List.flatMap_cons, List.flatMap_nil, List.append_nil] at hSa
      exact ⟨loop_frame (by kernel_rfl), ⟨i + 1, by show Value.int .i64 _ = _; simp, by omega, _, HS.out.1.trans ((Wr.of_below (below_alloc (Below.refl _ _) _) hbW).trans hWa), by rw [flat_snoc w32 HX.out, all_snoc in32 HX.out, ← List.append_assoc, ← Bool.and_assoc]; exact hSa⟩, Msr.lt (by omega)⟩
end Go.Proofs.Ytieoklpgnmbpjaa.Gr
