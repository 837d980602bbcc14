/- The document's put. -/
import Derived.Test.YtieoklpgnmbpjaaE30
namespace Go.Proofs.Ytieoklpgnmbpjaa.Gr
open Go.RowKit Dr
open Go.Proofs.YtieoklpgnmbpjaaW.PrintWords (Kd Kd.C Kd.R Kd.M_step Kd.C_below Kd.C_get Kd.R_below Kd.R_reads Kd.R_reads' Kd.R_types Kd.R_step Kd.R_alloc Kd.R_drew Kd.R_lower add_field Kd.R_append Kd.R_bound Kd.R_move Kd.R_mono Kd.R_nil Kd.R_set Kd.R_ne Kd.R_over' Kd.R_typed Kd.C_nil Kd.R_slice Kd.R_append_rows Kd.R_form ReadsRow Kd.C_string)
set_option linter.unusedVariables false
set_option linter.unusedSimpArgs false
set_option maxRecDepth 100000
theorem in32_le {x : Int} : in32 x = (decide (-2147483648 ≤ x) && decide (x ≤ 2147483647)) := by
  unfold in32
  by_cases h : x ≤ 2147483647
  · rw [decide_eq_true h, decide_eq_true (show x < 2147483648 by omega)]
  · rw [decide_eq_false h, decide_eq_false (show ¬ x < 2147483648 by omega)]
theorem cv372 (x : Int) (W : World) : (convert 3 72 (.int .i64 x)).run Try.prog W = .ok (.int .u64 (x % 18446744073709551616)) W := by
  rw [show (convert 3 72 (.int .i64 x)).run Try.prog W = .ok (.int .u64 (IntKind.u64.wrap x)) W by kernel_rfl, IntKind.wrap_u64]
theorem cv7260 (x : Int) (W : World) : (convert 72 60 (.int .u64 x)).run Try.prog W = .ok (.int .u32 (x % 4294967296)) W := by
  rw [show (convert 72 60 (.int .u64 x)).run Try.prog W = .ok (.int .u32 (IntKind.u32.wrap x)) W by kernel_rfl, IntKind.wrap_u32]
theorem rem_u64 {x n r : Int} {p q : Operand} (h0 : n ≠ 0) (h : 0 ≤ x) (e : x % n = r) (W : World) : (do eqGuard .rem 72 p q (.int .u64 x) (.int .u64 n); binOp .rem 72 (.int .u64 x) (.int .u64 n) : Sem Value).run Try.prog W = .ok (.int .u64 r) W := b_rem h0 (by rw [Int.tmod_eq_emod_of_nonneg h]; exact e)
set_option maxHeartbeats 16000000 in
theorem put_r (A : Option Addr) (c : Nat) (l : List Int) (w : World) (hl : l.length ≤ 1000) (hC : Kd.C (Kd.int .i64) w A l.length l) :
    Calls Try.prog 16 #[.slice A l.length c] w fun e w' => ∃ v, e = .returned (.tuple #[v, .bool (l.all in32)]) ∧ Kd.R (Kd.int .u8) 5 w' w.heap.size (fun _ => True) v (l.flatMap w32) ∧ Below w.heap.size w w' := by
  have HC := Lib.hid hC
  have hR0 : Kd.R (Kd.int .u8) 5 (w.alloc (.cells #[] 5)) w.heap.size (fun _ => True) (.slice (some ⟨w.heap.size, 0, none⟩) 0 0) [] := R_fresh (k := .u8) (xs := []) (blk_new w (.cells #[] 5)) (Nat.le_refl _) (by decide)
  have hB0 := below_alloc (Below.refl w.heap.size w) (.cells #[] 5)
  have HR0 := Lib.hid hR0
  have HB0 := Lib.hid hB0
  clear hC hR0 hB0
  go_enter Try.func16, Try.ntmps16
  apply wp_seq_k; intro K1 hK1; have HK1 := Lib.hid hK1; clear hK1
  go_wp2
  refine HK1.out _ _ ?_; clear HK1
  apply wp_seq_k; intro K1 hK1; have HK1 := Lib.hid hK1; clear hK1
  go_wp2
  refine HK1.out _ _ ?_; clear HK1
  generalize w.alloc (.cells #[] 5) = W1 at *
  generalize Value.slice (some ⟨w.heap.size, 0, none⟩) 0 0 = u0 at *
  apply wp_seq_k; intro K1 hK1; have HK1 := Lib.hid hK1; clear hK1
  go_wp2
  refine wp_loopS [4, 5, 6, 8, 9, 10, 11, 12, 13, 14, 15, 16, 17, 18, 19, 20, 21, 22, 23, 24, 25, 26, 27, 28, 29, 30, 31, 32, 33, 34, 35, 36, 37, 38] (fun sl W => ∃ i : Nat, sl 6 = .int .i64 (i : Int) ∧ i ≤ l.length ∧ ∃ u, sl 4 = u ∧ sl 5 = .bool ((l.take i).all in32) ∧ (Below w.heap.size w W ∧ Kd.R (Kd.int .u8) 5 W w.heap.size (fun _ => True) u ((l.take i).flatMap w32))) (fun sl W => Msr (l.length : Int) (sl 6)) ⟨0, rfl, Nat.zero_le _, _, rfl, rfl, ⟨HB0.out, HR0.out⟩⟩ ?_
  intro vs2 W2 a2 hb2' hI
  obtain ⟨i, hsl, hi, u, hv0, hv1, hS⟩ := hI
  simp only [setSlots, Act.put, List.setIfInBounds_toArray, List.set_cons_succ, List.set_cons_zero] at hb2'
  subst hb2'
  replace hsl : vs2 6 = .int .i64 (i : Int) := hsl
  replace hv0 : vs2 4 = u := hv0
  replace hv1 : vs2 5 = .bool ((l.take i).all in32) := hv1
  rw [hsl, hv0, hv1]
  clear hsl hv0 hv1
  have HS := Lib.hid hS
  clear hS
  by_cases hil : i < l.length
  rotate_left
  · have hd : decide ((i : Int) < (l.length : Int)) = false := decide_eq_false (by omega)
    obtain rfl : i = l.length := by omega
    rw [List.take_length] at *
    go_wp2
    refine HK1.out _ _ ?_; clear HK1
    go_wp2
    go_ret2
    exact ⟨u, rfl, HS.out.2, HS.out.1⟩
  · have hd : decide ((i : Int) < (l.length : Int)) = true := decide_eq_true (by omega)
    have hinc : IntKind.i64.wrap ((i : Int) + 1) = (i : Int) + 1 := IntWalk.i64_in _ (by omega)
    obtain ⟨x, hx⟩ : ∃ x, l[i]? = some x := ⟨_, List.getElem?_eq_getElem hil⟩
    obtain ⟨ad, hAd, -⟩ := HC.out.2.2 (by omega)
    subst hAd
    have hcell : W2.cell? (ad.add i) = some (.int .i64 x) := C_cell (Kd.C_below HC.out HS.out.1) hx
    have hix : ∀ W, (Instr.indexAt 50 (.slice (some ad) l.length c) (.int .i64 (i : Int))).run Try.prog W = .ok (.pointer (some (ad.add i))) W := fun W => ixn50 ad l.length c i hil W
    have HX := Lib.hid hx
    clear hx
    apply wp_seq_k; intro K2 hK2; have HK2 := Lib.hid hK2; clear hK2
    go_wp2
    refine HK2.out _ _ ?_; clear HK2
    apply wp_seq_k; intro K8 hK8; have HK8 := Lib.hid hK8; clear hK8
    apply wp_block
    generalize hok : (l.take i).all in32 = ok
    have HOK := Lib.hid hok
    clear hok
    refine wp_seqS [5, 14, 15, 16, 17, 18, 19, 20, 21, 22, 23, 24, 25, 26, 27, 28] (fun sl W => sl 5 = .bool (ok && in32 x) ∧ W = W2) ?_ ?_
    · rw [in32_le]
      cases ok
      · go_wp2
        refine ⟨loop_frame (by kernel_rfl), ?_⟩; first | exact ⟨rfl, rfl⟩ | exact ⟨rfl, trivial⟩ | rfl
      · by_cases h1 : -2147483648 ≤ x
        · have d1 : decide ((-2147483648 : Int) ≤ x) = true := decide_eq_true h1
          rw [d1]
          go_wp2
          refine ⟨loop_frame (by kernel_rfl), ?_⟩; first | exact ⟨rfl, rfl⟩ | exact ⟨rfl, trivial⟩ | rfl
        · have d1 : decide ((-2147483648 : Int) ≤ x) = false := decide_eq_false h1
          rw [d1]
          go_wp2
          refine ⟨loop_frame (by kernel_rfl), ?_⟩; first | exact ⟨rfl, rfl⟩ | exact ⟨rfl, trivial⟩ | rfl
    intro vs3 W3 a3 hb3' hI
    simp only [setSlots, Act.put, List.setIfInBounds_toArray, List.set_cons_succ, List.set_cons_zero] at hb3'
    subst hb3'
    obtain ⟨hv0, hW3⟩ := hI
    replace hv0 : vs3 5 = .bool (ok && in32 x) := hv0
    rw [hv0, hW3]
    clear hv0 hW3 W3
    refine wp_listed (R := fun W W' => Below W.heap.size W W') 9 [.val (u), .val (.slice (some ad) l.length c), .val (.int .i64 (i : Int)), .val (.pointer (some (ad.add i))), .val (.int .i64 x), .val (.int .u64 (x % 18446744073709551616)), .val (.int .u64 (x % 4294967296)), .val (.int .u32 (x % 4294967296)), newB ((w32 x).map (Value.int .u8)).toArray 5 4] (fun W => Below W2.heap.size W2 W) (by kernel_rfl) (Below.refl _ _) ?_ ?_
    · intro vs W hG a1 ha1
      have e0 : a1.eval (.tmp 0) = .slice (some ad) l.length c := eo ha1 (by kernel_rfl)
      have e4 : a1.eval (.tmp 4) = u := eo ha1 (by kernel_rfl)
      have e6 : a1.eval (.tmp 6) = .int .i64 (i : Int) := eo ha1 (by kernel_rfl)
      have i30 := ei (d := 30) ha1 1 (by kernel_rfl) rfl rfl (by simp)
      have i31 := ei (d := 31) ha1 2 (by kernel_rfl) rfl rfl (by simp)
      have i32 := ei (d := 32) ha1 3 (by kernel_rfl) rfl rfl (by simp)
      have i33 := ei (d := 33) ha1 4 (by kernel_rfl) rfl rfl (by simp)
      have i34 := ei (d := 34) ha1 5 (by kernel_rfl) rfl rfl (by simp)
      have i35 := ei (d := 35) ha1 6 (by kernel_rfl) rfl rfl (by simp)
      have i36 := ei (d := 36) ha1 7 (by kernel_rfl) rfl rfl (by simp)
      clear ha1
      refine And.intro ?_ (And.intro ?_ (And.intro ?_ (And.intro ?_ (And.intro ?_ (And.intro ?_ (And.intro ?_ (And.intro ?_ (And.intro ?_ (trivial)))))))))
      · intro hp K hK
        refine g_no rfl ?_
        exact st_move (.inl rfl) (e4) (hK _ _ rfl hG (Below.refl _ _))
      · intro hp K hK
        refine g_no rfl ?_
        exact st_move (.inl rfl) (e0) (hK _ _ rfl hG (Below.refl _ _))
      · intro hp K hK
        refine g_no rfl ?_
        exact st_move (.inl rfl) (e6) (hK _ _ rfl hG (Below.refl _ _))
      · intro hp K hK
        refine g_no rfl ?_
        have e30 : a1.eval (.tmp 30) = _ := i30.trans (hp 1 (by kernel_rfl))
        have e31 : a1.eval (.tmp 31) = _ := i31.trans (hp 2 (by kernel_rfl))
        exact st_index rfl (e30) (e31) (hix _) (hK _ _ rfl hG (Below.refl _ _))
      · intro hp K hK
        refine g_no rfl ?_
        have e32 : a1.eval (.tmp 32) = _ := i32.trans (hp 3 (by kernel_rfl))
        exact st_load rfl (e32) (ld_cell 3 (by kernel_rfl) (cw hG hcell)) (hK _ _ rfl hG (Below.refl _ _))
      · intro hp K hK
        refine g_no rfl ?_
        have e33 : a1.eval (.tmp 33) = _ := i33.trans (hp 4 (by kernel_rfl))
        exact st_conv rfl (e33) (cv372 _ _) (hK _ _ rfl hG (Below.refl _ _))
      · intro hp K hK
        refine g_no rfl ?_
        have e34 : a1.eval (.tmp 34) = _ := i34.trans (hp 5 (by kernel_rfl))
        exact st_bin rfl (e34) (eval_const _) (rem_u64 (by decide) (by omega) (by omega) _) (hK _ _ rfl hG (Below.refl _ _))
      · intro hp K hK
        refine g_no rfl ?_
        have e35 : a1.eval (.tmp 35) = _ := i35.trans (hp 6 (by kernel_rfl))
        exact st_conv rfl (e35) (by rw [cv7260, Int.emod_emod_of_dvd _ (by decide)]) (hK _ _ rfl hG (Below.refl _ _))
      · intro hp K hK
        refine g_no rfl ?_
        have e36 : a1.eval (.tmp 36) = _ := i36.trans (hp 7 (by kernel_rfl))
        refine st_call rfl (by first | (simp only [List.map_toArray, List.map_cons, List.map_nil, eval_const, e36]; done) | (simp only [List.map_toArray, List.map_cons, List.map_nil, eval_const, e36]; rfl)) (by kernel_rfl) ?_
        refine (word_is x _).mono ?_
        rintro e w' ⟨gg, rfl, hgg, hb'⟩
        exact ⟨_, rfl, hK _ _ ⟨_, rfl, hgg⟩ (below_step hG hb') hb'⟩
    intro vs W hG hp a1 ha1
    have q0 : vs 0 = _ := hp 0 (by decide)
    have q8 : ∃ gg, (vs 8) = .slice (some ⟨gg, 0, none⟩) 4 4 ∧ W.heap[gg]? = some (.cells ((w32 x).map (Value.int .u8)).toArray 5 (0, 0)) := hp 8 (by decide)
    clear hp
    simp only [fill, Act.put, List.append_eq, List.cons_append, List.nil_append, List.take_succ_cons, List.take_zero, List.setIfInBounds_toArray, List.set_cons_succ, List.set_cons_zero, Nat.reduceAdd, Nat.zero_add, q0] at ha1
    subst ha1
    simp only [List.append_eq, List.cons_append, List.nil_append, List.drop_succ_cons, List.drop_zero]
    clear q0
    obtain ⟨gg, hv, hgg⟩ := q8
    rw [hv]
    clear hv hix hcell
    have HGG := Lib.hid hgg
    have HBW := Lib.hid (below_step HS.out.1 hG)
    have HRW := Lib.hid (Kd.R_below HS.out.2 hG)
    clear hgg hG HS
    go_wp2_with ((with_reducible refine gate_builtin (b := .append) (xs := #[.tmp 29, .tmp 37]) rfl ?_); at_builtin; refine Kd.R_append_rows (Kd.int .u8) (Rr := (Kd.int .u8).K (W)) (w0 := w) w.heap.size rfl (.tmp 29) (.tmp 37) 28 5 (.int .u8 0) 1 rfl Try.underlying28 info5 rfl (by decide) (by omega) (u) (((l.take i).flatMap w32)) (w32 x) (some ⟨gg, 0, none⟩) (4) (4) (fun _ => True) (fun _ => False) rfl rfl (HRW.out) (C_mk (xs := w32 x) HGG.out (by rw [w32_len]; decide)) (fun _ _ h => h) (fun _ hk => hk.elim) (fun _ _ => trivial) (HBW.out) (HBW.out.size) (by rw [flat_len, List.length_take]; omega) ?_; intro v4 w4 ho hb hg hat; have HOw4 := Lib.hid ho; have HBw4 := Lib.hid hb; clear ho hb hg hat)
    refine HK8.out _ _ ?_; clear HK8
    go_wp2
    exact ⟨loop_frame (by kernel_rfl), ⟨i + 1, by show Value.int .i64 _ = _; simp, by omega, _, rfl, by rw [all_snoc in32 HX.out, HOK.out]; rfl, HBw4.out, by rw [flat_snoc w32 HX.out]; exact HOw4.out⟩, Msr.lt (by omega)⟩
end Go.Proofs.Ytieoklpgnmbpjaa.Gr
