/- Bytes cut off, and bytes with others behind them, are no network. -/
import Derived.Test.YtieoklpgnmbpjaaE21
import Derived.Test.YtieoklpgnmbpjaaE23
namespace Go.Proofs.Ytieoklpgnmbpjaa.Gr
open Go.RowKit Dr
open Go.Proofs.YtieoklpgnmbpjaaW.PrintWords (Kd Kd.C Kd.R Kd.M_step Kd.C_below Kd.C_get Kd.R_below Kd.R_reads Kd.R_reads' Kd.R_types Kd.R_step Kd.R_alloc Kd.R_drew Kd.R_lower add_field Kd.R_append Kd.R_bound Kd.R_move Kd.R_mono Kd.R_nil Kd.R_set Kd.R_ne Kd.R_over' Kd.R_typed Kd.C_nil Kd.R_slice Kd.R_append_rows Kd.R_form ReadsRow Kd.C_string)
set_option linter.unusedVariables false
set_option linter.unusedSimpArgs false
set_option maxRecDepth 100000
set_option maxHeartbeats 16000000 in
theorem parse_short (A : Option Addr) (n c : Nat) (w : World) (hn : n < 28) : Calls Try.prog 10 #[.slice A n c] w fun e w' => e = .returned (.tuple #[.agg ZG, .int .i64 3]) ∧ Below w.heap.size w w' := by
  have d1 : decide ((1048576 : Int) < (n : Int)) = false := decide_eq_false (by omega)
  have d2 : decide ((n : Int) < 28) = true := decide_eq_true (by omega)
  have hX := blk_new w (.cells #[.int .i64 0, .int .i64 0, .int .i64 0, .slice none 0 0, .slice none 0 0, .int .i64 0] 26)
  have hB := below_alloc (Below.refl w.heap.size w) (.cells #[.int .i64 0, .int .i64 0, .int .i64 0, .slice none 0 0, .slice none 0 0, .int .i64 0] 26)
  go_enter Try.func10, Try.ntmps10
  apply wp_seq_k; intro K1 hK1; have HK1 := Lib.hid hK1; clear hK1
  go_wp2
  refine HK1.out _ _ ?_; clear HK1
  generalize w.alloc (.cells #[.int .i64 0, .int .i64 0, .int .i64 0, .slice none 0 0, .slice none 0 0, .int .i64 0] 26) = W1 at *
  have HX := Lib.hid hX
  have HB := Lib.hid hB
  clear hX hB
  have z0 := (blk_cell HX.out 0).trans (show _ = some (Value.int .i64 0) from rfl)
  have z1 := (blk_cell HX.out 1).trans (show _ = some (Value.int .i64 0) from rfl)
  have z2 := (blk_cell HX.out 2).trans (show _ = some (Value.int .i64 0) from rfl)
  have z3 := (blk_cell HX.out 3).trans (show _ = some (Value.slice none 0 0) from rfl)
  have z4 := (blk_cell HX.out 4).trans (show _ = some (Value.slice none 0 0) from rfl)
  have z5 := (blk_cell HX.out 5).trans (show _ = some (Value.int .i64 0) from rfl)
  have f0 := blk_frozen HX.out 0
  have f1 := blk_frozen HX.out 1
  have f2 := blk_frozen HX.out 2
  have f3 := blk_frozen HX.out 3
  have f4 := blk_frozen HX.out 4
  have f5 := blk_frozen HX.out 5
  go_wp2
  change bodyPost _ _ _ _ _ (W1.setCells w.heap.size 0 [.int .i64 0, .int .i64 0, .int .i64 0, .slice none 0 0, .slice none 0 0, .int .i64 0])
  have X1 := blk_puts (cs' := #[.int .i64 0, .int .i64 0, .int .i64 0, .slice none 0 0, .slice none 0 0, .int .i64 0]) HX.out rfl
  refine bodyPost_ret (results_ct rfl _ _ (w.heap.size) 26 #[.int .i64 0, .int .i64 0, .int .i64 0, .slice none 0 0, .slice none 0 0, .int .i64 0] (0, 0) _ rfl X1 Try.underlying26 rfl (by kernel_rfl)) rfl ?_
  exact ⟨rfl, below_setsL _ 0 0 HB.out (Nat.le_refl _)⟩
theorem gb_28 (a b c o : Int) (cs : List (List Int × List Int)) (ns : List (List Int)) : 28 ≤ (gb a b c o cs ns).length := by
  unfold gb hd6 MG; simp only [List.length_append, flat_len, List.length_cons, List.length_nil]; omega
/-- What reading bytes that are none leaves. -/
theorem PQ_bad {w : World} {a b c o f : Int} {rc : List (List Int × List Int) × (List Int × Int)} {rn : List (List Int) × (List Int × Int)} {e : Ending} {w' : World} (h : PQ w a b c o rc rn e w') (hf : fin rn.2 = f) (h0 : f ≠ 0) : e = .returned (.tuple #[.agg ZG, .int .i64 f]) ∧ Below w.heap.size w w' := by
  refine ⟨?_, h.1⟩
  have h3 := h.2
  unfold fin at hf
  simp only [hf, if_neg h0] at h3
  exact h3
theorem parse_cut {a b c o : Int} {cs : List (List Int × List Int)} {ns : List (List Int)} (hg : goodG a b c o cs ns) (hx : (gb a b c o cs ns).length ≤ 1048576) (m : Nat) (hm : m < (gb a b c o cs ns).length) (v : Value) (w : World) (base : Nat) (hR : Kd.R (Kd.int .u8) 5 w base (fun _ => True) v ((gb a b c o cs ns).take m)) :
    Calls Try.prog 10 #[v] w fun e w' => e = .returned (.tuple #[.agg ZG, .int .i64 3]) ∧ Below w.heap.size w w' := by
  have hl : ((gb a b c o cs ns).take m).length = m := by rw [List.length_take]; omega
  by_cases h28 : m < 28
  · obtain ⟨A, cap, rfl⟩ := Kd.R_slice hR
    rw [hl]
    exact parse_short A m cap w h28
  · obtain ⟨g, cap, rfl, hb, hlt, -⟩ := Kd.R_form hR (by omega)
    have hR2 := Kd.R_reads' hR
    obtain ⟨a', b', c', o', m', k', s', H⟩ := Hd_of ((gb a b c o cs ns).take m)
    have h4 : ((gb a b c o cs ns).take m).take 4 = MG := by
      rw [List.take_take, Nat.min_eq_left (by omega)]
      unfold gb MG
      rfl
    have := parse_is ⟨g, 0, none⟩ cap ((gb a b c o cs ns).take m) w (fun x hx => okB_gb a b c o cs ns x (List.mem_of_mem_take hx)) (by omega) (by omega) h4 hR2.2.1 hR2.2.2 hlt a' b' c' o' _ _ s' H
    refine this.mono fun e w' h => PQ_bad h (cut_short hg (more := (gb a b c o cs ns).drop m) (List.take_append_drop _ _) (by omega) (fun e => ?_) H) (by decide)
    have := congrArg List.length e
    rw [List.length_drop] at this
    simp at this
    omega
theorem parse_more {a b c o : Int} {cs : List (List Int × List Int)} {ns : List (List Int)} (hg : goodG a b c o cs ns) (more : List Int) (hk : okB more) (hm : more ≠ []) (hx : (gb a b c o cs ns ++ more).length ≤ 1048576) (v : Value) (w : World) (base : Nat) (hR : Kd.R (Kd.int .u8) 5 w base (fun _ => True) v (gb a b c o cs ns ++ more)) :
    Calls Try.prog 10 #[v] w fun e w' => e = .returned (.tuple #[.agg ZG, .int .i64 4]) ∧ Below w.heap.size w w' := by
  have h28 := gb_28 a b c o cs ns
  have hl : 28 ≤ (gb a b c o cs ns ++ more).length := by rw [List.length_append]; omega
  obtain ⟨g, cap, rfl, hb, hlt, -⟩ := Kd.R_form hR (by omega)
  have hR2 := Kd.R_reads' hR
  obtain ⟨s, hH, h1, h2⟩ := back hg more
  have h4 : (gb a b c o cs ns ++ more).take 4 = MG := by
    rw [List.take_append_of_le_length (by omega)]
    unfold gb MG
    rfl
  have := parse_is ⟨g, 0, none⟩ cap (gb a b c o cs ns ++ more) w (okB_app (okB_gb a b c o cs ns) hk) hl hx h4 hR2.2.1 hR2.2.2 hlt a b c o _ _ s hH
  rw [h1] at this
  simp only at this
  rw [h2] at this
  refine this.mono fun e w' h => PQ_bad h ?_ (by decide)
  unfold fin
  simp only [if_neg hm]
  rfl
end Go.Proofs.Ytieoklpgnmbpjaa.Gr
