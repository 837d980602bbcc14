/- A network is written. -/
import Derived.Test.YtieoklpgnmbpjaaE13
import Derived.Test.YtieoklpgnmbpjaaE14
import Derived.Test.YtieoklpgnmbpjaaE16
import Derived.Lib.SlBytesConst
namespace Go.Proofs.Ytieoklpgnmbpjaa.Gr
open Go.RowKit Dr
open Go.Proofs.YtieoklpgnmbpjaaW.PrintWords (Kd Kd.C Kd.R Kd.M_step Kd.C_below Kd.C_get Kd.R_below Kd.R_reads Kd.R_reads' Kd.R_types Kd.R_step Kd.R_alloc Kd.R_drew Kd.R_lower add_field Kd.R_append Kd.R_bound Kd.R_move Kd.R_mono Kd.R_nil Kd.R_set Kd.R_ne Kd.R_over' Kd.R_typed Kd.C_nil Kd.R_slice Kd.R_append_rows Kd.R_form ReadsRow Kd.C_string)
set_option linter.unusedVariables false
set_option linter.unusedSimpArgs false
set_option maxRecDepth 100000
def nb (x : List Int) : List Int := (nums x).flatMap w32
def nok (x : List Int) : Bool := (nums x).all in32
def hd6 (a b c o : Int) (m n : Nat) : List Int := [a, b, c].flatMap w32 ++ [(m : Int), (n : Int), o].flatMap w32
/-- A network's bytes. -/
def gb (a b c o : Int) (cs : List (List Int × List Int)) (ns : List (List Int)) : List Int := MG ++ hd6 a b c o cs.length ns.length ++ cs.flatMap cb ++ ns.flatMap nb
/-- All its numbers are of 32 bits. -/
def gok (a b c o : Int) (cs : List (List Int × List Int)) (ns : List (List Int)) : Bool := [a, b, c].all in32 && [(cs.length : Int), (ns.length : Int), o].all in32 && cs.all cok && ns.all nok
/-- What writing a network leaves. -/
def WQ (w : World) (a b c o : Int) (cs : List (List Int × List Int)) (ns : List (List Int)) (e : Ending) (w' : World) : Prop :=
  Below w.heap.size w w' ∧ (if (lgB cs ns).1 = true ∨ gok a b c o cs ns = false ∨ 1048576 < (gb a b c o cs ns).length then e = .returned (.tuple #[.slice none 0 0, .int .i64 2])
    else if (lgB cs ns).2 = true then e = .returned (.tuple #[.slice none 0 0, .int .i64 4])
    else ∃ v, e = .returned (.tuple #[v, .int .i64 0]) ∧ Kd.R (Kd.int .u8) 5 w' w.heap.size (fun _ => True) v (gb a b c o cs ns))
theorem flat_snoc2 {α : Type} {l : List α} {i : Nat} {x : α} (f : α → List Int) (h : l[i]? = some x) : (l.take (i + 1)).flatMap f = (l.take i).flatMap f ++ f x := by
  rw [List.take_add_one, h, List.flatMap_append]
  simp
theorem all_snoc2 {α : Type} {l : List α} {i : Nat} {x : α} (f : α → Bool) (h : l[i]? = some x) : (l.take (i + 1)).all f = ((l.take i).all f && f x) := by
  rw [List.take_add_one, h, List.all_append]
  simp
theorem flat_le {α : Type} {f : α → List Int} {m : Nat} : ∀ {l : List α}, (∀ x ∈ l, (f x).length ≤ m) → (l.flatMap f).length ≤ l.length * m
  | [], _ => by simp
  | x :: r, h => by
    have h1 := h x (by simp)
    have h2 := flat_le (l := r) (fun y hy => h y (by simp [hy]))
    rw [List.flatMap_cons, List.length_append, List.length_cons, Nat.add_mul]
    omega
theorem cb_len (x : List Int × List Int) : (cb x).length = 8 + x.1.length + 4 * x.2.length := by
  simp only [cb, List.length_append, w32_len, List.length_map, flat_len]
  omega
theorem nb_len (x : List Int) : (nb x).length = 108 := by
  unfold nb
  rw [flat_len]
  rfl
theorem lgB_in {cs : List (List Int × List Int)} {ns : List (List Int)} (h : (lgB cs ns).1 = false) : cs.length ≤ 80 ∧ ns.length ≤ 40 ∧ ∀ x ∈ cs, x.1.length ≤ 65536 ∧ x.2.length ≤ 65536 := by
  unfold lgB at h
  by_cases h1 : 80 < cs.length ∨ 40 < ns.length
  · rw [if_pos h1] at h; cases h
  · rw [if_neg h1] at h
    refine ⟨by omega, by omega, fun x hx => ?_⟩
    have h2 := List.any_eq_false.1 h x hx
    unfold bigC at h2
    simp only [Bool.or_eq_true, decide_eq_true_eq] at h2
    omega
theorem C_R_wr {b base : Nat} {W W' : World} {A : Option Addr} {n c : Nat} {xs : List Int} (h : Kd.R (Kd.int .i64) 3 W base (fun _ => True) (.slice A n c) xs) (hW : Wr b W W') : Kd.C (Kd.int .i64) W' A xs.length xs :=
  C_int (Kd.R_reads' h).2.2 (fun a ha => by
    subst ha
    obtain ⟨cells, hc⟩ := Kd.R_typed h a.block rfl
    exact (hW.oth _ _ _ hc (by decide) (by decide)).trans hc.symm)
theorem AP_slice {W : World} {b : Nat} {v : Value} {bs : List Int} (h : AP W b v bs) : ∃ A c, v = .slice A bs.length c := by
  rcases h with h | ⟨g4, rfl, rfl, _, _⟩
  · exact Kd.R_slice h
  · exact ⟨_, 4, rfl⟩
theorem AP_R {W : World} {b : Nat} {v : Value} {bs : List Int} (h : AP W b v bs) (hl : 5 ≤ bs.length) : Kd.R (Kd.int .u8) 5 W b (fun _ => True) v bs := by
  rcases h with h | ⟨g4, _, rfl, _, _⟩
  · exact h
  · exact absurd hl (by decide)
def intsS (l : List Int) (g0 : Nat) : DSpec (fun W W' => Below W.heap.size W W') := ⟨fun v W => Kd.R (Kd.int .i64) 3 W g0 (fun _ => True) v l, fun _ _ _ h hb => Kd.R_below h hb⟩
set_option maxHeartbeats 16000000 in
theorem write_is (a b c o : Int) (AU AV : Option Addr) (cU cV : Nat) (cs : List (List Int × List Int)) (ns : List (List Int)) (w : World) (hC : kCo.C w AU cs.length cs) (hN : kNd.C w AV ns.length ns) (H32 : ∀ x ∈ cs, ∀ z ∈ x.2, -2147483648 ≤ z ∧ z ≤ 2147483647) (HM : ∀ x ∈ ns, (-2147483648 ≤ x.getD 14 0 ∧ x.getD 14 0 ≤ 2147483647) ∧ (-2147483648 ≤ x.getD 15 0 ∧ x.getD 15 0 ≤ 2147483647)) :
    Calls Try.prog 7 #[.agg #[.int .i64 a, .int .i64 b, .int .i64 c, .slice AU cs.length cU, .slice AV ns.length cV, .int .i64 o]] w fun e w' => WQ w a b c o cs ns e w' := by
  have hbx := blk_new w (.cells #[.int .i64 a, .int .i64 b, .int .i64 c, .slice AU cs.length cU, .slice AV ns.length cV, .int .i64 o] 26)
  have hB := below_alloc (Below.refl w.heap.size w) (.cells #[.int .i64 a, .int .i64 b, .int .i64 c, .slice AU cs.length cU, .slice AV ns.length cV, .int .i64 o] 26)
  have HC := Lib.hid hC
  have HN := Lib.hid hN
  clear hC hN
  go_enter Try.func7, Try.ntmps7
  apply wp_seq_k; intro K1 hK1; have HK1 := Lib.hid hK1; clear hK1
  go_wp2
  refine HK1.out _ _ ?_; clear HK1
  generalize w.alloc (.cells #[.int .i64 a, .int .i64 b, .int .i64 c, .slice AU cs.length cU, .slice AV ns.length cV, .int .i64 o] 26) = W1 at *
  have HB := Lib.hid hB
  have HX := Lib.hid hbx
  clear hB hbx
  have p0 := (blk_cell HX.out 0).trans (show _ = some (Value.int .i64 a) from rfl)
  have p1 := (blk_cell HX.out 1).trans (show _ = some (Value.int .i64 b) from rfl)
  have p2 := (blk_cell HX.out 2).trans (show _ = some (Value.int .i64 c) from rfl)
  have p3 := (blk_cell HX.out 3).trans (show _ = some (Value.slice AU cs.length cU) from rfl)
  have p4 := (blk_cell HX.out 4).trans (show _ = some (Value.slice AV ns.length cV) from rfl)
  have p5 := (blk_cell HX.out 5).trans (show _ = some (Value.int .i64 o) from rfl)
  apply wp_seq_k; intro K1 hK1; have HK1 := Lib.hid hK1; clear hK1
  go_wp2_with (go_at_call 12; refine (large_is a b c o AU AV cU cV cs ns _ (Kd.C_below HC.out HB.out)).mono ?_; rintro e W2 ⟨rfl, hB2⟩)
  refine HK1.out _ _ ?_; clear HK1
  have HB2 := Lib.hid hB2
  clear hB2 p0 p1 p2 p3 p4 p5
  obtain ⟨lg, hlg⟩ : ∃ lg, lgB cs ns = lg := ⟨_, rfl⟩
  have HLG := Lib.hid hlg
  rw [hlg]
  obtain ⟨long, both⟩ := lg
  simp only
  clear hlg
  cases long
  rotate_left
  · go_wp2
    go_ret2
    refine ⟨below_step HB.out HB2.out, ?_⟩
    rw [if_pos (.inl (by rw [HLG.out]))]
    rfl
  have HIN := Lib.hid (lgB_in (cs := cs) (ns := ns) (by rw [HLG.out]))
  apply wp_seq_k; intro K1 hK1; have HK1 := Lib.hid hK1; clear hK1
  go_wp2
  refine HK1.out _ _ ?_; clear HK1
  have hcv := Go.Lib.run_convert_bytes_const W2 28 5 #[.int .u8 78, .int .u8 78, .int .u8 84, .int .u8 49] 4 4 Try.underlying28 Try.underlying5
  apply wp_seq_k; intro K1 hK1; have HK1 := Lib.hid hK1; clear hK1
  go_wp2
  refine HK1.out _ _ ?_; clear HK1
  clear hcv
  have hs2 : (W2.alloc (.cells #[.int .u8 78, .int .u8 78, .int .u8 84, .int .u8 49] 5 (4, 5))).heap.size = W2.heap.size + 1 := by simp
  have hn1 := blk_alloc (blk_new W2 (.cells #[.int .u8 78, .int .u8 78, .int .u8 84, .int .u8 49] 5 (4, 5))) (.cells #[.slice (some ⟨W2.heap.size, 0, none⟩) 4 4, .bool true] 48)
  have hn2 := blk_new (W2.alloc (.cells #[.int .u8 78, .int .u8 78, .int .u8 84, .int .u8 49] 5 (4, 5))) (.cells #[.slice (some ⟨W2.heap.size, 0, none⟩) 4 4, .bool true] 48)
  rw [hs2] at hn2
  have hB3 : Below W2.heap.size W2 ((W2.alloc (.cells #[.int .u8 78, .int .u8 78, .int .u8 84, .int .u8 49] 5 (4, 5))).alloc (.cells #[.slice (some ⟨W2.heap.size, 0, none⟩) 4 4, .bool true] 48)) := below_alloc (below_alloc (Below.refl _ _) _) _
  generalize (W2.alloc (.cells #[.int .u8 78, .int .u8 78, .int .u8 84, .int .u8 49] 5 (4, 5))).alloc (.cells #[.slice (some ⟨W2.heap.size, 0, none⟩) 4 4, .bool true] 48) = W3 at *
  have hwW2 : w.heap.size ≤ W2.heap.size := Nat.le_trans HB.out.size HB2.out.size
  have hS3 : WS w.heap.size (W2.heap.size + 1) W3 (.slice (some ⟨W2.heap.size, 0, none⟩) 4 4) true MG := ⟨hn2, .inr ⟨_, rfl, rfl, hwW2, hn1⟩⟩
  have hX3 := blk_below (blk_below HX.out HB2.out) hB3
  have hB4 : Below w.heap.size w W3 := below_step (below_step HB.out HB2.out) hB3
  obtain ⟨gw, hgw⟩ : ∃ gw, W2.heap.size + 1 = gw := ⟨_, rfl⟩
  rw [hgw] at hS3 hn2 ⊢
  have hb : w.heap.size ≤ gw := by omega
  obtain ⟨v0, hv0⟩ : ∃ v0, Value.slice (some ⟨W2.heap.size, 0, none⟩) 4 4 = v0 := ⟨_, rfl⟩
  rw [hv0] at hS3 ⊢
  clear hn1 hn2 hB3 HX HB2 HB hs2 hgw hv0
  obtain ⟨gx, hgx⟩ : ∃ gx, w.heap.size = gx := ⟨_, rfl⟩
  have HX := Lib.hid hX3
  have HS3 := Lib.hid hS3
  have HB4 := Lib.hid hB4
  clear hX3 hS3 hB4 hgx gx
  have hW4 : Wr w.heap.size w W3 := ⟨HB4.out, fun k _ _ h1 _ _ => blk_below h1 HB4.out⟩
  have hb3 := HB4.out.size
  have hC3 : ∀ W', Wr w.heap.size W3 W' → Kd.C (Kd.int .i64) W' (some ⟨w.heap.size, 0, none⟩) 3 [a, b, c] := fun W' hW => C_cells (g := w.heap.size) (o := 0) (xs := [a, b, c]) (fun i x hx => by
    have hq := hW.oth _ _ _ HX.out (by decide) (by decide)
    match i with
    | 0 => obtain rfl := Option.some.inj hx; exact (blk_cell hq 0).trans rfl
    | 1 => obtain rfl := Option.some.inj hx; exact (blk_cell hq 1).trans rfl
    | 2 => obtain rfl := Option.some.inj hx; exact (blk_cell hq 2).trans rfl
    | i + 3 => simp at hx) (by simp)
  have HC3 := Lib.hid hC3
  clear hC3
  apply wp_seq_k; intro K1 hK1; have HK1 := Lib.hid hK1; clear hK1
  go_wp2_with (go_at_call 13; refine (put_is w.heap.size gw (some ⟨w.heap.size, 0, none⟩) 3 [a, b, c] MG true v0 _ hb hb3 (by simp [MG]) HS3.out HC3.out).mono ?_; rintro e W4 ⟨rfl, hWa, v4, hSa⟩)
  refine HK1.out _ _ ?_; clear HK1
  have hX4 := hWa.oth _ _ _ HX.out (by decide) (by decide)
  have HW5 := Lib.hid (hW4.trans hWa)
  have HS4 := Lib.hid hSa
  have HX4 := Lib.hid hX4
  clear hWa hSa hX4 HS3 HX HC3 hW4 hb3 HB4
  have p0 := (blk_cell HX4.out 0).trans (show _ = some (Value.int .i64 a) from rfl)
  have p1 := (blk_cell HX4.out 1).trans (show _ = some (Value.int .i64 b) from rfl)
  have p2 := (blk_cell HX4.out 2).trans (show _ = some (Value.int .i64 c) from rfl)
  have p3 := (blk_cell HX4.out 3).trans (show _ = some (Value.slice AU cs.length cU) from rfl)
  have p4 := (blk_cell HX4.out 4).trans (show _ = some (Value.slice AV ns.length cV) from rfl)
  have p5 := (blk_cell HX4.out 5).trans (show _ = some (Value.int .i64 o) from rfl)
  have hb4 := HW5.out.bel.size
  apply wp_seq_k; intro K1 hK1; have HK1 := Lib.hid hK1; clear hK1
  go_wp2_with (go_at_call 13; refine (put_is w.heap.size gw (some ⟨W4.heap.size, 0, none⟩) 3 [(cs.length : Int), (ns.length : Int), o] _ _ _ _ hb (Nat.le_trans hb4 (below_alloc (Below.refl _ _) _).size) (by simp only [List.length_append, flat_len, List.length_cons, List.length_nil, MG]; omega) (HS4.out.below (below_alloc (Below.refl _ _) _)) (fun W' hW => C_mk (xs := [(cs.length : Int), (ns.length : Int), o]) (hW.oth _ _ _ (blk_new _ _) (by decide) (by decide)) (by simp))).mono ?_; rintro e W5 ⟨rfl, hWa, v5, hSa⟩)
  refine HK1.out _ _ ?_; clear HK1
  have hX5 := hWa.oth _ _ _ (blk_alloc HX4.out _) (by decide) (by decide)
  have hW6 : Wr w.heap.size w W5 := HW5.out.trans ((Wr.of_below (below_alloc (Below.refl _ _) _) hb4).trans hWa)
  have hS5 : WS w.heap.size gw W5 v5 ([a, b, c].all in32 && [(cs.length : Int), (ns.length : Int), o].all in32) (MG ++ hd6 a b c o cs.length ns.length) := by
    have := hSa
    rw [Bool.true_and, List.append_assoc] at this
    exact this
  have HX := Lib.hid hX5
  have HW := Lib.hid hW6
  have HS := Lib.hid hS5
  clear hX5 hW6 hS5 hWa hSa HX4 HW5 HS4 hb4 p0 p1 p2 p3 p4 p5
  obtain ⟨ok5, hok5⟩ : ∃ ok5, ([a, b, c].all in32 && [(cs.length : Int), (ns.length : Int), o].all in32) = ok5 := ⟨_, rfl⟩
  obtain ⟨bs5, hbs5⟩ : ∃ bs5, MG ++ hd6 a b c o cs.length ns.length = bs5 := ⟨_, rfl⟩
  have hl5 : bs5.length = 28 := by rw [← hbs5]; simp only [hd6, List.length_append, flat_len, MG, List.length_cons, List.length_nil]
  rw [hok5, hbs5] at HS
  have HOK := Lib.hid hok5
  have HBS := Lib.hid hbs5
  clear hok5 hbs5
  have hb5 := HW.out.bel.size
  have c3 : W5.cell? ⟨w.heap.size, 3, none⟩ = some (.slice AU cs.length cU) := (blk_cell HX.out 3).trans rfl
  apply wp_seq_k; intro K1 hK1; have HK1 := Lib.hid hK1; clear hK1
  go_wp2
  clear c3
  refine wp_loopS [8, 39, 40, 41, 42, 43, 44, 45, 46] (fun sl W => ∃ i : Nat, sl 39 = .int .i64 (i : Int) ∧ i ≤ cs.length ∧ ∃ u, (Wr w.heap.size W5 W ∧ WS w.heap.size gw W u (ok5 && (cs.take i).all cok) (bs5 ++ (cs.take i).flatMap cb))) (fun sl W => Msr (cs.length : Int) (sl 39)) ⟨0, rfl, Nat.zero_le _, _, Wr.refl _ _, by simpa using HS.out⟩ ?_
  intro vs7 W7 a7 hb7' hI
  obtain ⟨i, hsl, hi, u, hS⟩ := hI
  simp only [setSlots, Act.put, List.setIfInBounds_toArray, List.set_cons_succ, List.set_cons_zero] at hb7'
  subst hb7'
  replace hsl : vs7 39 = .int .i64 (i : Int) := hsl
  rw [hsl]
  clear hsl
  have HS := Lib.hid hS
  clear hS
  by_cases hil : i < cs.length
  rotate_left
  rotate_left
  · have hd : decide ((i : Int) < (cs.length : Int)) = true := decide_eq_true (by omega)
    have hinc : IntKind.i64.wrap ((i : Int) + 1) = (i : Int) + 1 := IntWalk.i64_in _ (by have := HIN.out.1; omega)
    obtain ⟨x, hx⟩ : ∃ x, cs[i]? = some x := ⟨_, List.getElem?_eq_getElem hil⟩
    obtain ⟨ad, A1, c1, A2, c2, hAd, hcell, -, -, hA1, hA2⟩ := co_get HC.out hx
    subst hAd
    have hBw := (HW.out.trans HS.out.1).bel
    have hcell7 := cells_below hcell hBw
    have HCE := Lib.hid hcell7
    have hbd : ((cs.take i).flatMap cb).length ≤ 26215040 := by
      have h1 := flat_le (f := cb) (m := 327688) (l := cs.take i) (fun y hy => by
        rw [cb_len]
        have := HIN.out.2.2 y (List.mem_of_mem_take hy)
        omega)
      have h2 : (cs.take i).length ≤ 80 := by rw [List.length_take]; have := HIN.out.1; omega
      exact Nat.le_trans h1 (Nat.mul_le_mul_right 327688 h2)
    have hxl := HIN.out.2.2 x (List.mem_of_getElem? hx)
    have hx32 := H32 x (List.mem_of_getElem? hx)
    have HA1 := Lib.hid hA1
    have HA2 := Lib.hid hA2
    have HBD := Lib.hid hbd
    have HXL := Lib.hid hxl
    have HBW := Lib.hid hBw
    clear hcell hcell7 hA1 hA2 hbd hxl hBw
    apply wp_seq_k; intro K2 hK2; have HK2 := Lib.hid hK2; clear hK2
    go_wp2
    refine HK2.out _ _ ?_; clear HK2
    apply wp_seq_k; intro K2 hK2; have HK2 := Lib.hid hK2; clear hK2
    go_wp2
    refine HK2.out _ _ ?_; clear HK2
    apply wp_seq_k; intro K8 hK8; have HK8 := Lib.hid hK8; clear hK8
    apply wp_block
    apply wp_seq_k; intro K3 hK3; have HK3 := Lib.hid hK3; clear hK3
    refine wp_listed (R := fun W W' => Below W.heap.size W W') 3 [.val (.pointer (some (ad.add (i * 2)))), .val (.agg #[.slice A1 x.1.length c1, .slice A2 x.2.length c2]), newSpec (.cells #[.slice none 0 0, .slice none 0 0] 42 (0, 0)) W7.heap.size] (fun W => Below W7.heap.size W7 W) (by kernel_rfl) (Below.refl _ _) ?_ ?_
    · intro vs W hG a1 ha1
      have e37 : a1.eval (.tmp 37) = .slice (some ad) cs.length cU := eo ha1 (by kernel_rfl)
      have e39 : a1.eval (.tmp 39) = .int .i64 (i : Int) := eo ha1 (by kernel_rfl)
      have i41 := ei (d := 41) ha1 0 (by kernel_rfl) rfl rfl (by simp)
      clear ha1
      refine And.intro ?_ (And.intro ?_ (And.intro ?_ (trivial)))
      · intro hp K hK
        refine g_no rfl ?_
        exact st_index rfl (e37) (e39) (ix23 ad cs.length cU i hil _) (hK _ _ rfl hG (Below.refl _ _))
      · intro hp K hK
        refine g_no rfl ?_
        have e41 : a1.eval (.tmp 41) = _ := i41.trans (hp 0 (by kernel_rfl))
        exact st_load rfl (e41) (ld42 HCE.out hG) (hK _ _ rfl hG (Below.refl _ _))
      · intro hp K hK
        refine g_no rfl ?_
        exact st_alloc rfl (by kernel_rfl) (hK _ _ ⟨_, rfl, blk_new _ _, hG.size⟩ (hG.alloc hG.size _) (below_alloc (Below.refl _ _) _))
    intro vs W hG hp a1 ha1
    have q1 : vs 1 = _ := hp 1 (by decide)
    have q2 : ∃ gg, (vs 2) = .pointer (some ⟨gg, 0, none⟩) ∧ W.heap[gg]? = some (.cells #[.slice none 0 0, .slice none 0 0] 42 (0, 0)) ∧ W7.heap.size ≤ gg := hp 2 (by decide)
    clear hp
    simp only [fill, Act.put, List.append_eq, List.cons_append, List.nil_append, List.take_succ_cons, List.take_zero, List.setIfInBounds_toArray, List.set_cons_succ, List.set_cons_zero, Nat.reduceAdd, Nat.zero_add, q1] at ha1
    subst ha1
    simp only [List.append_eq, List.cons_append, List.nil_append, List.drop_succ_cons, List.drop_zero]
    clear q1
    obtain ⟨gy, hv, Agy, hgy⟩ := q2
    rw [hv]
    clear hv
    refine wpList_store_mid rfl 42 (.tmp 8) (.tmp 42) rfl gy 0 #[.slice A1 x.1.length c1, .slice A2 x.2.length c2] (by kernel_rfl) (by kernel_rfl) (by have h := blk_there Agy; exact h) (by kernel_rfl) (by kernel_rfl) ?_
    have hX1 := blk_puts (cs' := #[.slice A1 x.1.length c1, .slice A2 x.2.length c2]) Agy rfl
    have hBV : Below W7.heap.size W7 (W.setCells gy 0 #[.slice A1 x.1.length c1, .slice A2 x.2.length c2].toList) := below_setsL _ 0 0 hG hgy
    clear Agy hG
    generalize W.setCells gy 0 #[.slice A1 x.1.length c1, .slice A2 x.2.length c2].toList = V at hX1 hBV ⊢
    clear W
    have hX := Lib.hid hX1
    have HBV := Lib.hid hBV
    clear hX1 hBV
    refine wpList_nil ?_
    simp only [Act.put]
    refine HK3.out _ _ ?_; clear HK3
    have q0 := (blk_cell hX.out 0).trans (show _ = some (Value.slice A1 x.1.length c1) from rfl)
    have q1 := (blk_cell hX.out 1).trans (show _ = some (Value.slice A2 x.2.length c2) from rfl)
    have hb7 : w.heap.size ≤ W7.heap.size := HBW.out.size
    have hV : Wr w.heap.size W7 V := Wr.of_below HBV.out hb7
    have hbV : w.heap.size ≤ V.heap.size := Nat.le_trans hb7 HBV.out.size
    have hVw := HBW.out.trans hV.bel
    have HHX := Lib.hid hx
    clear hx
    go_wp2_with (go_at_call 14; refine (wcon_is w.heap.size gw A1 A2 c1 c2 x _ _ u _ hb hbV (by rw [List.length_append]; have := HBD.out; have := HXL.out; omega) hx32 (HS.out.2.below HBV.out) (fun W' hW => Kd.C_below HA1.out (hVw.trans hW.bel)) (fun W' hW => Kd.C_below HA2.out (hVw.trans hW.bel))).mono ?_; rintro e W8 ⟨rfl, hWa, v8, hSa⟩)
    refine HK8.out _ _ ?_; clear HK8
    go_wp2
    exact ⟨loop_frame (by kernel_rfl), ⟨i + 1, by show Value.int .i64 _ = _; simp, by omega, _, (HS.out.1.trans hV).trans hWa, by rw [flat_snoc2 cb HHX.out, all_snoc2 cok HHX.out, ← List.append_assoc, ← Bool.and_assoc]; exact hSa⟩, Msr.lt (by omega)⟩
  · have hd : decide ((i : Int) < (cs.length : Int)) = false := decide_eq_false (by omega)
    obtain rfl : i = cs.length := by omega
    rw [List.take_length] at HS
    go_wp2
    refine HK1.out _ _ ?_; clear HK1
    obtain ⟨ok6, hok6⟩ : ∃ ok6, (ok5 && cs.all cok) = ok6 := ⟨_, rfl⟩
    obtain ⟨bs6, hbs6⟩ : ∃ bs6, bs5 ++ cs.flatMap cb = bs6 := ⟨_, rfl⟩
    have hl6 : bs6.length ≤ 26215068 := by
      have h1 := flat_le (f := cb) (m := 327688) (l := cs) (fun y hy => by
        rw [cb_len]
        have := HIN.out.2.2 y hy
        omega)
      rw [← hbs6, List.length_append, hl5]
      have h2 := Nat.le_trans h1 (Nat.mul_le_mul_right 327688 HIN.out.1)
      omega
    rw [hok6, hbs6] at HS
    have HOK6 := Lib.hid hok6
    have HBS6 := Lib.hid hbs6
    have hX9 := HS.out.1.oth _ _ _ HX.out (by decide) (by decide)
    have c4 : W7.cell? ⟨w.heap.size, 4, none⟩ = some (.slice AV ns.length cV) := (blk_cell hX9 4).trans rfl
    have HW7 := Lib.hid (HW.out.trans HS.out.1)
    have HS7 := Lib.hid HS.out.2
    clear hok6 hbs6 hX9 HS HW HX hi hil hd
    apply wp_seq_k; intro K1 hK1; have HK1 := Lib.hid hK1; clear hK1
    go_wp2
    clear c4
    refine wp_loopS [10, 50, 51, 52, 53, 54, 55, 56, 57, 58] (fun sl W => ∃ j : Nat, sl 50 = .int .i64 (j : Int) ∧ j ≤ ns.length ∧ ∃ u2, (Wr w.heap.size W7 W ∧ WS w.heap.size gw W u2 (ok6 && (ns.take j).all nok) (bs6 ++ (ns.take j).flatMap nb))) (fun sl W => Msr (ns.length : Int) (sl 50)) ⟨0, rfl, Nat.zero_le _, _, Wr.refl _ _, by simpa using HS7.out⟩ ?_
    intro vs6 W6 a6 hb6' hI
    obtain ⟨j, hsl, hi, u2, hS⟩ := hI
    simp only [setSlots, Act.put, List.setIfInBounds_toArray, List.set_cons_succ, List.set_cons_zero] at hb6'
    subst hb6'
    replace hsl : vs6 50 = .int .i64 (j : Int) := hsl
    rw [hsl]
    clear hsl
    have HS := Lib.hid hS
    clear hS
    by_cases hil : j < ns.length
    rotate_left
    clear HS7
    rotate_left
    · have hd : decide ((j : Int) < (ns.length : Int)) = true := decide_eq_true (by omega)
      have hinc : IntKind.i64.wrap ((j : Int) + 1) = (j : Int) + 1 := IntWalk.i64_in _ (by have := HIN.out.2.1; omega)
      obtain ⟨x, hx⟩ : ∃ x, ns[j]? = some x := ⟨_, List.getElem?_eq_getElem hil⟩
      obtain ⟨ad, hAd, hcell⟩ := nd_get HN.out hx
      subst hAd
      have hBw := (HW7.out.trans HS.out.1).bel
      have hcell7 := cells_below hcell hBw
      have HCE := Lib.hid hcell7
      have hbd : ((ns.take j).flatMap nb).length ≤ 4320 := by
        have h1 := flat_le (f := nb) (m := 108) (l := ns.take j) (fun y hy => by rw [nb_len]; omega)
        have h2 : (ns.take j).length ≤ 40 := by rw [List.length_take]; have := HIN.out.2.1; omega
        exact Nat.le_trans h1 (Nat.mul_le_mul_right 108 h2)
      have hxm := HM x (List.mem_of_getElem? hx)
      have HBD := Lib.hid hbd
      have HXM := Lib.hid hxm
      have HBW := Lib.hid hBw
      clear hcell hcell7 hbd hxm hBw
      apply wp_seq_k; intro K2 hK2; have HK2 := Lib.hid hK2; clear hK2
      go_wp2
      refine HK2.out _ _ ?_; clear HK2
      apply wp_seq_k; intro K2 hK2; have HK2 := Lib.hid hK2; clear hK2
      go_wp2
      refine HK2.out _ _ ?_; clear HK2
      apply wp_seq_k; intro K8 hK8; have HK8 := Lib.hid hK8; clear hK8
      apply wp_block
      apply wp_seq_k; intro K3 hK3; have HK3 := Lib.hid hK3; clear hK3
      refine wp_listed (R := fun W W' => Below W.heap.size W W') 3 [.val (.pointer (some (ad.add (j * 26)))), .val (.agg (nrow x).toArray), newSpec (.cells #[.int .i64 0, .int .i64 0, .int .i64 0, .int .i64 0, .int .i64 0, .int .i64 0, .int .i64 0, .int .i64 0, .int .i64 0, .int .i64 0, .int .i64 0, .int .i64 0, .int .i64 0, .int .i64 0, .int .i32 0, .int .i32 0, .int .i64 0, .int .i64 0, .int .i64 0, .int .i64 0, .int .i64 0, .int .i64 0, .int .i64 0, .int .i64 0, .int .i64 0, .int .i64 0] 55 (0, 0)) W6.heap.size] (fun W => Below W6.heap.size W6 W) (by kernel_rfl) (Below.refl _ _) ?_ ?_
      · intro vs W hG a1 ha1
        have e48 : a1.eval (.tmp 48) = .slice (some ad) ns.length cV := eo ha1 (by kernel_rfl)
        have e50 : a1.eval (.tmp 50) = .int .i64 (j : Int) := eo ha1 (by kernel_rfl)
        have i52 := ei (d := 52) ha1 0 (by kernel_rfl) rfl rfl (by simp)
        clear ha1
        refine And.intro ?_ (And.intro ?_ (And.intro ?_ (trivial)))
        · intro hp K hK
          refine g_no rfl ?_
          exact st_index rfl (e48) (e50) (ix24 ad ns.length cV j hil _) (hK _ _ rfl hG (Below.refl _ _))
        · intro hp K hK
          refine g_no rfl ?_
          have e52 : a1.eval (.tmp 52) = _ := i52.trans (hp 0 (by kernel_rfl))
          exact st_load rfl (e52) (ld55 HCE.out hG) (hK _ _ rfl hG (Below.refl _ _))
        · intro hp K hK
          refine g_no rfl ?_
          exact st_alloc rfl (by kernel_rfl) (hK _ _ ⟨_, rfl, blk_new _ _, hG.size⟩ (hG.alloc hG.size _) (below_alloc (Below.refl _ _) _))
      intro vs W hG hp a1 ha1
      have q1 : vs 1 = _ := hp 1 (by decide)
      have q2 : ∃ gg, (vs 2) = .pointer (some ⟨gg, 0, none⟩) ∧ W.heap[gg]? = some (.cells #[.int .i64 0, .int .i64 0, .int .i64 0, .int .i64 0, .int .i64 0, .int .i64 0, .int .i64 0, .int .i64 0, .int .i64 0, .int .i64 0, .int .i64 0, .int .i64 0, .int .i64 0, .int .i64 0, .int .i32 0, .int .i32 0, .int .i64 0, .int .i64 0, .int .i64 0, .int .i64 0, .int .i64 0, .int .i64 0, .int .i64 0, .int .i64 0, .int .i64 0, .int .i64 0] 55 (0, 0)) ∧ W6.heap.size ≤ gg := hp 2 (by decide)
      clear hp
      simp only [fill, Act.put, List.append_eq, List.cons_append, List.nil_append, List.take_succ_cons, List.take_zero, List.setIfInBounds_toArray, List.set_cons_succ, List.set_cons_zero, Nat.reduceAdd, Nat.zero_add, q1] at ha1
      subst ha1
      simp only [List.append_eq, List.cons_append, List.nil_append, List.drop_succ_cons, List.drop_zero]
      clear q1
      obtain ⟨gy, hv, Agy, hgy⟩ := q2
      rw [hv]
      clear hv
      refine wpList_store_mid rfl 55 (.tmp 10) (.tmp 53) rfl gy 0 (nrow x).toArray (by kernel_rfl) (by kernel_rfl) (by have h := blk_there Agy; exact h) (by kernel_rfl) (by kernel_rfl) ?_
      have hX1 := blk_puts (cs' := (nrow x).toArray) Agy rfl
      have hBV : Below W6.heap.size W6 (W.setCells gy 0 (nrow x).toArray.toList) := below_setsL _ 0 0 hG hgy
      clear Agy hG
      generalize W.setCells gy 0 (nrow x).toArray.toList = V at hX1 hBV ⊢
      clear W
      have hX := Lib.hid hX1
      have HBV := Lib.hid hBV
      clear hX1 hBV
      refine wpList_nil ?_
      simp only [Act.put]
      refine HK3.out _ _ ?_; clear HK3
      have hb7 : w.heap.size ≤ W6.heap.size := HBW.out.size
      have hV : Wr w.heap.size W6 V := Wr.of_below HBV.out hb7
      have hbV : w.heap.size ≤ V.heap.size := Nat.le_trans hb7 HBV.out.size
      have HHX := Lib.hid hx
      clear hx
      refine wp_listed (R := fun W W' => Below W.heap.size W W') 3 [.val (.pointer (some ⟨gw, 0, none⟩)), .val (.agg (nrow x).toArray), intsS (nums x) V.heap.size] (fun W => Below V.heap.size V W) (by kernel_rfl) (Below.refl _ _) ?_ ?_
      · intro vs W hG a1 ha1
        have e6 : a1.eval (.tmp 6) = .pointer (some ⟨gw, 0, none⟩) := eo ha1 (by kernel_rfl)
        have e10 : a1.eval (.tmp 10) = .pointer (some ⟨gy, 0, none⟩) := eo ha1 (by kernel_rfl)
        have i55 := ei (d := 55) ha1 1 (by kernel_rfl) rfl rfl (by simp)
        clear ha1
        refine And.intro ?_ (And.intro ?_ (And.intro ?_ (trivial)))
        · intro hp K hK
          refine g_no rfl ?_
          exact st_move (.inl rfl) (e6) (hK _ _ rfl hG (Below.refl _ _))
        · intro hp K hK
          refine g_no rfl ?_
          exact st_load rfl (e10) (ld_all 55 _ (blk_below hX.out hG) Try.underlying55 rfl (by kernel_rfl)) (hK _ _ rfl hG (Below.refl _ _))
        · intro hp K hK
          refine g_no rfl ?_
          have e55 : a1.eval (.tmp 55) = _ := i55.trans (hp 1 (by kernel_rfl))
          refine st_call rfl (by first | (simp only [List.map_toArray, List.map_cons, List.map_nil, eval_const, e55]; done) | (simp only [List.map_toArray, List.map_cons, List.map_nil, eval_const, e55]; rfl)) (by kernel_rfl) ?_
          refine (numbers_is x _ HXM.out.1 HXM.out.2).mono ?_
          rintro e w' ⟨v7, rfl, hr7, hb'⟩
          exact ⟨_, rfl, hK _ _ (Kd.R_lower hr7 hG.size) (below_step hG hb') hb'⟩
      intro vs W hG hp a1 ha1
      have q0 : vs 0 = _ := hp 0 (by decide)
      have q2 : Kd.R (Kd.int .i64) 3 W V.heap.size (fun _ => True) (vs 2) (nums x) := hp 2 (by decide)
      clear hp
      simp only [fill, Act.put, List.append_eq, List.cons_append, List.nil_append, List.take_succ_cons, List.take_zero, List.setIfInBounds_toArray, List.set_cons_succ, List.set_cons_zero, Nat.reduceAdd, Nat.zero_add, q0] at ha1
      subst ha1
      simp only [List.append_eq, List.cons_append, List.nil_append, List.drop_succ_cons, List.drop_zero]
      clear q0
      obtain ⟨A7, c7, h7⟩ := Kd.R_slice q2
      rw [h7] at q2 ⊢
      have HQ2 := Lib.hid q2
      have HVW := Lib.hid hG
      have hVW : Wr w.heap.size V W := Wr.of_below hG hbV
      have hbW : w.heap.size ≤ W.heap.size := Nat.le_trans hbV hG.size
      clear q2 hG h7
      go_wp2_with (go_at_call 13; refine (put_is w.heap.size gw A7 c7 (nums x) _ _ u2 _ hb hbW (by rw [List.length_append]; have := HBD.out; have e : (nums x).length = 27 := rfl; omega) ((HS.out.2.below HBV.out).below HVW.out) (fun W' hW => C_R_wr HQ2.out hW)).mono ?_; rintro e W8 ⟨rfl, hWa, v8, hSa⟩)
      refine HK8.out _ _ ?_; clear HK8
      go_wp2
      exact ⟨loop_frame (by kernel_rfl), ⟨j + 1, by show Value.int .i64 _ = _; simp, by omega, _, ((HS.out.1.trans hV).trans hVW).trans hWa, by rw [flat_snoc2 nb HHX.out, all_snoc2 nok HHX.out, ← List.append_assoc, ← Bool.and_assoc]; exact hSa⟩, Msr.lt (by omega)⟩
    · have hd : decide ((j : Int) < (ns.length : Int)) = false := decide_eq_false (by omega)
      obtain rfl : j = ns.length := by omega
      rw [List.take_length] at HS
      go_wp2
      refine HK1.out _ _ ?_; clear HK1
      have HBg := Lib.hid (HW7.out.trans HS.out.1).bel
      have hSf : WS w.heap.size gw W6 u2 (gok a b c o cs ns) (gb a b c o cs ns) := by
        have h := HS.out.2
        rw [← HOK6.out, ← HOK.out, ← HBS6.out, ← HBS.out] at h
        exact h
      have HSf := Lib.hid hSf
      have hln : 28 ≤ (gb a b c o cs ns).length := by unfold gb; rw [← HBS.out] at hl5; simp only [List.length_append] at hl5 ⊢; omega
      have HLN := Lib.hid hln
      clear hSf HS HOK HOK6 HBS HBS6 HW7 hl5 hl6 hln
      obtain ⟨okg, hokg⟩ : ∃ okg, gok a b c o cs ns = okg := ⟨_, rfl⟩
      obtain ⟨bsg, hbsg⟩ : ∃ bsg, gb a b c o cs ns = bsg := ⟨_, rfl⟩
      have HOKG := Lib.hid hokg
      have HBSG := Lib.hid hbsg
      rw [hokg, hbsg] at HSf
      rw [hbsg] at HLN
      clear hokg hbsg
      obtain ⟨Af, cf, rfl⟩ := AP_slice HSf.out.r
      have f0 : W6.cell? ⟨gw, 0, none⟩ = some (.slice Af bsg.length cf) := (blk_cell HSf.out.blk 0).trans rfl
      have f1 : W6.cell? ⟨gw, 1, none⟩ = some (.bool okg) := (blk_cell HSf.out.blk 1).trans rfl
      have hHL : Hid ((lgB cs ns).1 = false) := Lib.hid (by rw [HLG.out])
      have hHB : Hid ((lgB cs ns).2 = both) := Lib.hid (by rw [HLG.out])
      cases okg
      · go_wp2
        go_ret2
        refine ⟨HBg.out, ?_⟩
        rw [if_pos (.inr (.inl HOKG.out))]
        rfl
      by_cases hbig : 1048576 < bsg.length
      · have dB : decide ((1048576 : Int) < (bsg.length : Int)) = true := decide_eq_true (by omega)
        go_wp2
        go_ret2
        refine ⟨HBg.out, ?_⟩
        rw [if_pos (.inr (.inr (by rw [HBSG.out]; exact hbig)))]
        rfl
      have dB : decide ((1048576 : Int) < (bsg.length : Int)) = false := decide_eq_false (by omega)
      have hno : ¬((lgB cs ns).1 = true ∨ gok a b c o cs ns = false ∨ 1048576 < (gb a b c o cs ns).length) := by
        rw [hHL.out, HOKG.out, HBSG.out]
        simp [hbig]
      have HNO := Lib.hid hno
      clear hno
      cases both
      · go_wp2
        go_ret2
        refine ⟨HBg.out, ?_⟩
        rw [if_neg HNO.out, if_neg (by rw [hHB.out]; decide)]
        refine ⟨.slice Af bsg.length cf, rfl, ?_⟩
        rw [HBSG.out]
        exact AP_R HSf.out.r (by have := HLN.out; omega)
      · go_wp2
        go_ret2
        refine ⟨HBg.out, ?_⟩
        rw [if_neg HNO.out, if_pos hHB.out]
        rfl
end Go.Proofs.Ytieoklpgnmbpjaa.Gr
