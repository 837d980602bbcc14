/- The law GraphLong. -/
import Derived.Test.YtieoklpgnmbpjaaE21
namespace Go.Proofs.Ytieoklpgnmbpjaa.Gr
open Go.RowKit Dr
open Go.Proofs.YtieoklpgnmbpjaaW.PrintWords (Kd Kd.C Kd.R Kd.M_step Kd.C_below Kd.C_get Kd.R_below Kd.R_reads Kd.R_reads' Kd.R_types Kd.R_step Kd.R_alloc Kd.R_drew Kd.R_lower add_field Kd.R_append Kd.R_bound Kd.R_move Kd.R_mono Kd.R_nil Kd.R_set Kd.R_ne Kd.R_over' Kd.R_typed Kd.C_nil Kd.R_slice Kd.R_append_rows Kd.R_form ReadsRow Kd.C_string Kd.R_make)
set_option linter.unusedVariables false
set_option linter.unusedSimpArgs false
set_option maxRecDepth 100000
theorem gate_make {P : Program} {ops : Array Oper} {rest : List Oper} {o : Oper} {a : Act} {W : World} {Q : Exit → Act → World → Prop} {t : TypeId} {x y : Operand} (_ho : o.op = .makeSlice t x y) (h : wpList P ops Q (o :: rest) a W) : wpList P ops Q (o :: rest) a W := h
theorem co_one {W : World} {g : Nat} {x : List Int × List Int} {A1 A2 : Option Addr} {c1 c2 : Nat} (h : W.heap[g]? = some (.cells #[.slice A1 x.1.length c1, .slice A2 x.2.length c2] 42 (0, 0))) (l1 : x.1.length ≤ c1) (l2 : x.2.length ≤ c2) (h1 : Kd.C (Kd.int .i8) W A1 x.1.length x.1) (h2 : Kd.C (Kd.int .i32) W A2 x.2.length x.2) : kCo.C W (some ⟨g, 0, none⟩) 1 [x] :=
  Go.Proofs.YtieoklpgnmbpjaaW.PrintWords.ReadsRow.imp_ (row_one (x := x) (cs := [.slice A1 x.1.length c1, .slice A2 x.2.length c2]) h) (Below.refl _ _) (fun p c hp => by obtain ⟨rfl, rfl⟩ := hp; exact ⟨[_], [_], rfl, ⟨A1, c1, rfl, l1, h1⟩, ⟨A2, c2, rfl, l2, h2⟩⟩)
/-- Whether writing says that a network is too long. -/
theorem WQ_code {w : World} {a b c o : Int} {cs : List (List Int × List Int)} {ns : List (List Int)} {e : Ending} {w' : World} (h : WQ w a b c o cs ns e w') {t : Bool} (hl : (lgB cs ns).1 = t) (h2 : t = false → (lgB cs ns).2 = false ∧ gok a b c o cs ns = true ∧ (gb a b c o cs ns).length ≤ 1048576) : Below w.heap.size w w' ∧ ∃ v, e = .returned (.tuple #[v, .int .i64 (if t = true then 2 else 0)]) := by
  refine ⟨h.1, ?_⟩
  have h3 := h.2
  cases t with
  | true =>
    rw [if_pos (.inl hl)] at h3
    exact ⟨_, h3⟩
  | false =>
    obtain ⟨q1, q2, q3⟩ := h2 rfl
    rw [if_neg (by rw [hl, q2]; simp; omega), if_neg (by rw [q1]; decide)] at h3
    obtain ⟨v, hv, _⟩ := h3
    exact ⟨v, hv⟩
theorem any_rep {α : Type} {f : α → Bool} {x : α} (h : f x = false) (n : Nat) : (List.replicate n x).any f = false := by
  rw [List.any_eq_false]
  intro y hy
  rw [List.eq_of_mem_replicate hy, h]
  decide
theorem all_rep {α : Type} {f : α → Bool} {x : α} (h : f x = true) (n : Nat) : (List.replicate n x).all f = true := by
  rw [List.all_eq_true]
  intro y hy
  rw [List.eq_of_mem_replicate hy, h]
theorem in32_s {n : Int} (h : 0 ≤ n ∧ n ≤ 100000) : in32 n = true := by
  unfold in32
  simp
  omega
theorem gb_len (a b c o : Int) (cs : List (List Int × List Int)) (ns : List (List Int)) : (gb a b c o cs ns).length = 28 + (cs.flatMap cb).length + (ns.flatMap nb).length := by
  unfold gb hd6 MG
  simp only [List.length_append, flat_len, List.length_cons, List.length_nil]
theorem flat_repl {α : Type} {f : α → List Int} {x : α} (n : Nat) : ((List.replicate n x).flatMap f).length = n * (f x).length := by
  induction n with
  | zero => simp
  | succ n ih => rw [List.replicate_succ, List.flatMap_cons, List.length_append, ih, Nat.add_mul, Nat.one_mul, Nat.add_comm]
theorem long_bytes (n : Nat) (h : n ≤ 65600) : (lgB [(List.replicate n 0, [])] []).1 = decide (65536 < n) ∧ ((lgB [(List.replicate n 0, [])] []).2 = false ∧ gok 0 0 0 0 [(List.replicate n 0, [])] [] = true ∧ (gb 0 0 0 0 [(List.replicate n 0, [])] []).length ≤ 1048576) := by
  have e : lgB [(List.replicate n 0, [])] [] = ([(List.replicate n (0 : Int), ([] : List Int))].any bigC, [(List.replicate n (0 : Int), ([] : List Int))].any bothC) := by unfold lgB; rw [if_neg (by simp)]
  refine ⟨?_, ?_, ?_, ?_⟩
  · rw [e]
    simp only [List.any_cons, List.any_nil, Bool.or_false, bigC, List.length_replicate, List.length_nil]
    by_cases q : 65536 < n
    · rw [decide_eq_true q, decide_eq_true (show (65536 : Int) < (n : Int) by omega)]; rfl
    · rw [decide_eq_false q, decide_eq_false (show ¬ (65536 : Int) < (n : Int) by omega)]; rfl
  · rw [e]
    simp [bothC]
  · unfold gok cok
    simp only [List.all_cons, List.all_nil, List.length_replicate, List.length_cons, List.length_nil, Bool.and_true]
    rw [in32_s (n := (n : Int)) (by omega)]
    decide
  · rw [gb_len]
    simp only [List.flatMap_cons, List.flatMap_nil, List.append_nil, cb_len, List.length_replicate, List.length_nil]
    omega
theorem long_nodes (n : Nat) (h : n ≤ 100) : (lgB [] (List.replicate n [])).1 = decide (40 < n) ∧ (decide (40 < n) = false → (lgB [] (List.replicate n [])).2 = false ∧ gok 0 0 0 0 [] (List.replicate n []) = true ∧ (gb 0 0 0 0 [] (List.replicate n [])).length ≤ 1048576) := by
  constructor
  · unfold lgB
    rw [List.length_replicate]
    by_cases q : 40 < n
    · rw [if_pos (.inr q), decide_eq_true q]
    · rw [if_neg (by simp; omega), decide_eq_false q]; rfl
  · intro q
    have q := of_decide_eq_false q
    refine ⟨?_, ?_, ?_⟩
    · unfold lgB
      rw [List.length_replicate, if_neg (by simp; omega)]
      rfl
    · unfold gok
      rw [all_rep (by decide)]
      simp only [List.all_cons, List.all_nil, List.length_replicate, List.length_nil, Bool.and_true]
      rw [in32_s (n := (n : Int)) (by omega)]
      decide
    · rw [gb_len, flat_repl, nb_len]
      simp only [List.flatMap_nil, List.length_nil]
      omega
theorem long_consts (n : Nat) (h : n ≤ 100) : (lgB (List.replicate n ([], [])) []).1 = decide (80 < n) ∧ (decide (80 < n) = false → (lgB (List.replicate n ([], [])) []).2 = false ∧ gok 0 0 0 0 (List.replicate n ([], [])) [] = true ∧ (gb 0 0 0 0 (List.replicate n ([], [])) []).length ≤ 1048576) := by
  constructor
  · unfold lgB
    rw [List.length_replicate]
    by_cases q : 80 < n
    · rw [if_pos (.inl q), decide_eq_true q]
    · rw [if_neg (by simp; omega), decide_eq_false q]
      exact any_rep (by decide) n
  · intro q
    have q := of_decide_eq_false q
    refine ⟨?_, ?_, ?_⟩
    · unfold lgB
      rw [List.length_replicate, if_neg (by simp; omega)]
      exact any_rep (by decide) n
    · unfold gok
      rw [all_rep (by decide)]
      simp only [List.all_cons, List.all_nil, List.length_replicate, List.length_nil, Bool.and_true]
      rw [in32_s (n := (n : Int)) (by omega)]
      decide
    · rw [gb_len, flat_repl, cb_len]
      simp only [List.flatMap_nil, List.length_nil]
      omega
theorem wr_bytes (M : Nat) (A : Option Addr) (c g cU : Nat) (W : World) (hM : M ≤ 65600) (hg : W.heap[g]? = some (.cells #[.slice A M c, .slice none 0 0] 42 (0, 0))) (hc : M ≤ c) (hC : Kd.C (Kd.int .i8) W A M (List.replicate M 0)) :
    Calls Try.prog 7 #[.agg #[.int .i64 0, .int .i64 0, .int .i64 0, .slice (some ⟨g, 0, none⟩) 1 cU, .slice none 0 0, .int .i64 0]] W fun e w' => Below W.heap.size W w' ∧ ∃ v, e = .returned (.tuple #[v, .int .i64 (if decide (65536 < M) = true then 2 else 0)]) := by
  have hlen : (List.replicate M (0 : Int)).length = M := List.length_replicate ..
  have hCo : kCo.C W (some ⟨g, 0, none⟩) 1 [(List.replicate M (0 : Int), ([] : List Int))] := co_one (x := (List.replicate M (0 : Int), ([] : List Int))) (A1 := A) (c1 := c) (A2 := none) (c2 := 0) (by simp only [hlen]; exact hg) (by simp only [hlen]; exact hc) (Nat.le_refl _) (by simp only [hlen]; exact hC) (Kd.C_nil _ _)
  have h := write_is 0 0 0 0 (some ⟨g, 0, none⟩) none cU 0 [(List.replicate M (0 : Int), ([] : List Int))] [] W hCo (Kd.C_nil _ _) (fun x hx z hz => by rw [List.mem_singleton.1 hx] at hz; exact (nomatch hz)) (fun x hx => (nomatch hx))
  exact h.mono fun e w' hq => WQ_code hq (long_bytes M hM).1 (fun _ => (long_bytes M hM).2)
theorem wr_nodes (M : Nat) (A : Option Addr) (c : Nat) (W : World) (hM : M ≤ 100) (hC : kNd.C W A M (List.replicate M [])) :
    Calls Try.prog 7 #[.agg #[.int .i64 0, .int .i64 0, .int .i64 0, .slice none 0 0, .slice A M c, .int .i64 0]] W fun e w' => Below W.heap.size W w' ∧ ∃ v, e = .returned (.tuple #[v, .int .i64 (if decide (40 < M) = true then 2 else 0)]) := by
  have hlen : (List.replicate M ([] : List Int)).length = M := List.length_replicate ..
  have h := write_is 0 0 0 0 none A 0 c [] (List.replicate M []) W (Kd.C_nil _ _) (by rw [hlen]; exact hC) (fun x hx => (nomatch hx)) (fun x hx => by rw [List.eq_of_mem_replicate hx]; decide)
  rw [hlen] at h
  exact h.mono fun e w' hq => WQ_code hq (long_nodes M hM).1 (long_nodes M hM).2
theorem wr_consts (M : Nat) (A : Option Addr) (c : Nat) (W : World) (hM : M ≤ 100) (hC : kCo.C W A M (List.replicate M ([], []))) :
    Calls Try.prog 7 #[.agg #[.int .i64 0, .int .i64 0, .int .i64 0, .slice A M c, .slice none 0 0, .int .i64 0]] W fun e w' => Below W.heap.size W w' ∧ ∃ v, e = .returned (.tuple #[v, .int .i64 (if decide (80 < M) = true then 2 else 0)]) := by
  have hlen : (List.replicate M (([], []) : List Int × List Int)).length = M := List.length_replicate ..
  have h := write_is 0 0 0 0 A none c 0 (List.replicate M ([], [])) [] W (by rw [hlen]; exact hC) (Kd.C_nil _ _) (fun x hx z hz => by rw [List.eq_of_mem_replicate hx] at hz; exact (nomatch hz)) (fun x hx => (nomatch hx))
  rw [hlen] at h
  exact h.mono fun e w' hq => WQ_code hq (long_consts M hM).1 (long_consts M hM).2
theorem rem12 {n : Int} {r : Nat} (h : n % 12 = (r : Int)) (h0 : 0 ≤ n) (W : World) : (binOp .rem 5 (.int .u8 n) (.int .u8 12)).run Try.prog W = .ok (.int .u8 (r : Int)) W := by
  have e : n.tmod 12 = (r : Int) := by rw [Int.tmod_eq_emod_of_nonneg h0, h]
  simp [binOp, go_sem, e]
theorem cv53 (r : Nat) (h : r < 12) (W : World) : (convert 5 3 (.int .u8 (r : Int))).run Try.prog W = .ok (.int .i64 (r : Int)) W := by
  rw [show (convert 5 3 (.int .u8 (r : Int))).run Try.prog W = .ok (.int .i64 (IntKind.i64.wrap (r : Int))) W by kernel_rfl, IntWalk.i64_in _ (by omega)]
theorem add_r (m r : Nat) (h : m + r < 100000) (W : World) : (binOp .add 3 (.int .i64 (m : Int)) (.int .i64 (r : Int))).run Try.prog W = .ok (.int .i64 ((m + r : Nat) : Int)) W := by
  have e : IntKind.i64.wrap ((m : Int) + (r : Int)) = ((m + r : Nat) : Int) := by rw [IntWalk.i64_in _ (by omega)]; simp
  simp [binOp, go_sem, e]
set_option maxHeartbeats 16000000 in
theorem long_law (n k : Int) (hn : 0 ≤ n) (hk : 0 ≤ k) (w : World) : Calls Try.prog 5 #[.int .u8 n, .int .u8 k] w fun e w' => e = .returned (.bool true) ∧ Below w.heap.size w w' := by
  obtain ⟨r, hr, hr2⟩ : ∃ r : Nat, n % 12 = (r : Int) ∧ r < 12 := ⟨(n % 12).toNat, by omega, by omega⟩
  obtain ⟨t, ht, ht2⟩ : ∃ t : Nat, k % 12 = (t : Int) ∧ t < 12 := ⟨(k % 12).toNat, by omega, by omega⟩
  have n1 : (65530 + (r : Int)).toNat = 65530 + r := by omega
  have n2 : (35 + (t : Int)).toNat = 35 + t := by omega
  have n3 : (75 + (t : Int)).toNat = 75 + t := by omega
  have N1 := Lib.hid n1
  have N2 := Lib.hid n2
  have N3 := Lib.hid n3
  clear n1 n2 n3
  go_enter Try.func5, Try.ntmps5
  apply wp_seq_k; intro K1 hK1; have HK1 := Lib.hid hK1; clear hK1
  go_wp2
  refine HK1.out _ _ ?_; clear HK1
  apply wp_seq_k; intro K1 hK1; have HK1 := Lib.hid hK1; clear hK1
  go_wp2_with ((with_reducible refine gate_make (t := 39) (x := .tmp 15) (y := .tmp 15) rfl ?_); refine Kd.R_make (Kd.int .i8) (w0 := w) w.heap.size 61 rfl (N := 16) rfl 39 (.tmp 15) (.tmp 15) rfl (65530 + (r : Int)) rfl rfl Try.underlying39 (.int .i8 0) 1 info61 rfl (by decide) (by decide) (0) (ok := fun _ => True) (okp := fun _ => True) (rfl) (fun _ _ => trivial) trivial (by omega) (by rw [N1.out]; omega) (Below.refl _ _) (Nat.le_refl _) ?_; intro x1 wx1 hR hB hg hat; rw [N1.out] at hR; obtain ⟨Ax1, cx1, rfl⟩ := Kd.R_slice hR; rw [List.length_replicate] at *; have HRx1 := Lib.hid hR; have HBx1 := Lib.hid hB; clear hR hB hg hat)
  refine HK1.out _ _ ?_; clear HK1
  have hx1 := blk_new wx1 (.cells #[.slice Ax1 (65530 + r) cx1, .slice none 0 0] 42)
  have hB1 : Below w.heap.size w (wx1.alloc (.cells #[.slice Ax1 (65530 + r) cx1, .slice none 0 0] 42)) := below_alloc HBx1.out _
  have hr1 := Kd.R_alloc HRx1.out (.cells #[.slice Ax1 (65530 + r) cx1, .slice none 0 0] 42)
  change Code.wp _ _ _ _ (wx1.alloc (.cells #[.slice Ax1 (65530 + r) cx1, .slice none 0 0] 42))
  generalize wx1.alloc (.cells #[.slice Ax1 (65530 + r) cx1, .slice none 0 0] 42) = W2 at *
  generalize wx1.heap.size = gc at *
  have HX := Lib.hid hx1
  have HB := Lib.hid hB1
  have HR := Lib.hid hr1
  clear hx1 hB1 hr1 HRx1 HBx1
  have c0 := (blk_cell HX.out 0).trans (show _ = some (Value.slice Ax1 (65530 + r) cx1) from rfl)
  have c1 := (blk_cell HX.out 1).trans (show _ = some (Value.slice none 0 0) from rfl)
  have hrd := Kd.R_reads' HR.out
  rw [List.length_replicate] at hrd
  have HRD := Lib.hid hrd
  clear hrd
  apply wp_seq_k; intro K1 hK1; have HK1 := Lib.hid hK1; clear hK1
  go_wp2_with (go_at_call 7; refine (wr_bytes (65530 + r) Ax1 cx1 W2.heap.size 1 _ (by omega) (blk_new W2 (.cells #[.slice Ax1 (65530 + r) cx1, .slice none 0 0] 42)) HRD.out.2.1 (Kd.C_below HRD.out.2.2 (below_alloc (Below.refl _ _) _))).mono ?_; rintro e W4 ⟨hB, v4, rfl⟩; generalize hE : (if decide (65536 < 65530 + r) = true then (2 : Int) else 0) = ev1; have HE4 := Lib.hid hE; have HB4 := Lib.hid hB; clear hE hB)
  refine HK1.out _ _ ?_; clear HK1
  clear c0 c1
  apply wp_seq_k; intro K1 hK1; have HK1 := Lib.hid hK1; clear hK1
  go_wp2_with (first | ((with_reducible refine gate_make (t := 24) (x := .tmp 29) (y := .tmp 29) rfl ?_); refine Kd.R_make kNd (w0 := W4) W4.heap.size 55 rfl (N := 30) rfl 24 (.tmp 29) (.tmp 29) rfl (35 + (t : Int)) rfl rfl Try.underlying24 (.agg (nrow []).toArray) 200 info55 rfl (by decide) (by decide) ([]) (ok := fun _ => True) (okp := fun _ => True) (rfl) (fun _ _ => trivial) trivial (by omega) (by rw [N2.out]; omega) (Below.refl _ _) (Nat.le_refl _) ?_; intro x2 wx2 hR hB hg hat; rw [N2.out] at hR; obtain ⟨Ax2, cx2, rfl⟩ := Kd.R_slice hR; rw [List.length_replicate] at hR ⊢; have HRx2 := Lib.hid hR; have HBx2 := Lib.hid hB; clear hR hB hg hat) | (go_at_call 7; refine (wr_nodes (35 + t) Ax2 cx2 _ (by omega) (by have h := Kd.R_reads' HRx2.out; rw [List.length_replicate] at h; exact h.2.2)).mono ?_; rintro e W5 ⟨hB, v5, rfl⟩; generalize hE : (if decide (40 < 35 + t) = true then (2 : Int) else 0) = ev2; have HE5 := Lib.hid hE; have HB5 := Lib.hid hB; clear hE hB))
  refine HK1.out _ _ ?_; clear HK1
  apply wp_seq_k; intro K1 hK1; have HK1 := Lib.hid hK1; clear hK1
  go_wp2_with (first | ((with_reducible refine gate_make (t := 23) (x := .tmp 39) (y := .tmp 39) rfl ?_); refine Kd.R_make kCo (w0 := W5) W5.heap.size 42 rfl (N := 40) rfl 23 (.tmp 39) (.tmp 39) rfl (75 + (t : Int)) rfl rfl Try.underlying23 (.agg #[.slice none 0 0, .slice none 0 0]) 48 info42 rfl (by decide) (by decide) (([], [])) (ok := fun _ => True) (okp := fun _ => True) (kCo_M (Kd.R_nil _ _ _ _ _) (Kd.R_nil _ _ _ _ _)) (fun _ _ => trivial) trivial (by omega) (by rw [N3.out]; omega) (Below.refl _ _) (Nat.le_refl _) ?_; intro x3 wx3 hR hB hg hat; rw [N3.out] at hR; obtain ⟨Ax3, cx3, rfl⟩ := Kd.R_slice hR; rw [List.length_replicate] at hR ⊢; have HRx3 := Lib.hid hR; have HBx3 := Lib.hid hB; clear hR hB hg hat) | (go_at_call 7; refine (wr_consts (75 + t) Ax3 cx3 _ (by omega) (by have h := Kd.R_reads' HRx3.out; rw [List.length_replicate] at h; exact h.2.2)).mono ?_; rintro e W6 ⟨hB, v6, rfl⟩; generalize hE : (if decide (80 < 75 + t) = true then (2 : Int) else 0) = ev3; have HE6 := Lib.hid hE; have HB6 := Lib.hid hB; clear hE hB))
  refine HK1.out _ _ ?_; clear HK1
  have hW : Below W2.heap.size W2 W6 := below_step (below_step (below_step (below_step (below_step (below_alloc (Below.refl _ _) _) HB4.out) HBx2.out) HB5.out) HBx3.out) HB6.out
  have hX6 := blk_below HX.out hW
  have c0 := (blk_cell hX6 0).trans (show _ = some (Value.slice Ax1 (65530 + r) cx1) from rfl)
  have HBF := Lib.hid (below_step HB.out hW)
  clear hX6 hW HX HB HR HRD HBx2 HBx3 HB4 HB5 HB6 HRx2 HRx3
  by_cases h1 : 65536 < 65530 + r
  · have d1 : decide ((65536 : Int) < 65530 + (r : Int)) = true := decide_eq_true (by omega)
    obtain rfl : ev1 = 2 := by rw [← HE4.out, if_pos (decide_eq_true h1)]
    by_cases h2 : 5 < t
    · have d2 : decide ((5 : Int) < (t : Int)) = true := decide_eq_true (by omega)
      obtain rfl : ev2 = 2 := by rw [← HE5.out, if_pos (decide_eq_true (show 40 < 35 + t by omega))]
      obtain rfl : ev3 = 2 := by rw [← HE6.out, if_pos (decide_eq_true (show 80 < 75 + t by omega))]
      go_wp2_with (go_at_call 9; refine (lives_is _).mono ?_; rintro e W7 ⟨rfl, hB7⟩)
      go_wp2
      go_ret
      exact ⟨rfl, below_step HBF.out hB7⟩
    · have d2 : decide ((5 : Int) < (t : Int)) = false := decide_eq_false (by omega)
      obtain rfl : ev2 = 0 := by rw [← HE5.out, if_neg (by rw [decide_eq_false (show ¬ 40 < 35 + t by omega)]; decide)]
      obtain rfl : ev3 = 0 := by rw [← HE6.out, if_neg (by rw [decide_eq_false (show ¬ 80 < 75 + t by omega)]; decide)]
      go_wp2_with (go_at_call 9; refine (lives_is _).mono ?_; rintro e W7 ⟨rfl, hB7⟩)
      go_wp2
      go_ret
      exact ⟨rfl, below_step HBF.out hB7⟩
  · have d1 : decide ((65536 : Int) < 65530 + (r : Int)) = false := decide_eq_false (by omega)
    obtain rfl : ev1 = 0 := by rw [← HE4.out, if_neg (by rw [decide_eq_false h1]; decide)]
    by_cases h2 : 5 < t
    · have d2 : decide ((5 : Int) < (t : Int)) = true := decide_eq_true (by omega)
      obtain rfl : ev2 = 2 := by rw [← HE5.out, if_pos (decide_eq_true (show 40 < 35 + t by omega))]
      obtain rfl : ev3 = 2 := by rw [← HE6.out, if_pos (decide_eq_true (show 80 < 75 + t by omega))]
      go_wp2_with (go_at_call 9; refine (lives_is _).mono ?_; rintro e W7 ⟨rfl, hB7⟩)
      go_wp2
      go_ret
      exact ⟨rfl, below_step HBF.out hB7⟩
    · have d2 : decide ((5 : Int) < (t : Int)) = false := decide_eq_false (by omega)
      obtain rfl : ev2 = 0 := by rw [← HE5.out, if_neg (by rw [decide_eq_false (show ¬ 40 < 35 + t by omega)]; decide)]
      obtain rfl : ev3 = 0 := by rw [← HE6.out, if_neg (by rw [decide_eq_false (show ¬ 80 < 75 + t by omega)]; decide)]
      go_wp2_with (go_at_call 9; refine (lives_is _).mono ?_; rintro e W7 ⟨rfl, hB7⟩)
      go_wp2
      go_ret
      exact ⟨rfl, below_step HBF.out hB7⟩
end Go.Proofs.Ytieoklpgnmbpjaa.Gr
