/- A network is read. -/
import Derived.Test.YtieoklpgnmbpjaaE11
namespace Go.Proofs.Ytieoklpgnmbpjaa.Gr
open Go.RowKit Dr
open Go.Proofs.YtieoklpgnmbpjaaW.PrintWords (Kd Kd.C Kd.R Kd.M_step Kd.C_below Kd.C_get Kd.R_below Kd.R_reads Kd.R_reads' Kd.R_types Kd.R_step Kd.R_alloc Kd.R_drew Kd.R_lower add_field Kd.R_append Kd.R_bound Kd.R_move Kd.R_mono Kd.R_nil Kd.R_set Kd.R_ne Kd.R_over' Kd.R_typed Kd.C_nil Kd.R_slice Kd.R_append_rows Kd.R_form ReadsRow Kd.C_string)
set_option linter.unusedVariables false
set_option linter.unusedSimpArgs false
set_option maxRecDepth 100000

theorem many_eqn (most : Int) (hm : 0 ≤ most) (s : List Int × Int) : ∃ (m : Nat) (s1 : List Int × Int), many most s = ((m : Int), s1) ∧ (m : Int) ≤ most := by
  have h := many_in hm s
  refine ⟨(many most s).1.toNat, (many most s).2, ?_, by omega⟩
  rw [Int.toNat_of_nonneg h.1]
theorem many_mn (b g : Nat) (most : Int) (s s1 : List Int × Int) (m : Nat) (w : World) (hm : many most s = ((m : Int), s1)) (hb : b ≤ g) (ho : okB s.1) (h : RD w b g s) :
    Calls Try.prog 20 #[.pointer (some ⟨g, 0, none⟩), .int .i64 most] w fun e w' => e = .returned (.int .i64 (m : Int)) ∧ RD w' b g s1 ∧ w.grownBy w' (some g) := by
  have := many_is b g most s w hb ho h
  rw [hm] at this
  exact this
theorem num_n (b g : Nat) (s s1 : List Int × Int) (o : Int) (w : World) (hm : num s = (o, s1)) (hb : b ≤ g) (ho : okB s.1) (h : RD w b g s) :
    Calls Try.prog 21 #[.pointer (some ⟨g, 0, none⟩)] w fun e w' => e = .returned (.int .i64 o) ∧ RD w' b g s1 ∧ w.grownBy w' (some g) := by
  have := number_is b g s w hb ho h
  rw [hm] at this
  exact this
theorem mg_eq (W : World) : (binOp .neq 9 (.string ⟨#[78, 78, 84, 49]⟩) (.string ⟨#[78, 78, 84, 49]⟩)).run Try.prog W = .ok (.bool false) W := by kernel_rfl
theorem mg_conv {W : World} {ad : Addr} {c : Nat} {bs : List Int} (h : Kd.C (Kd.int .u8) W (some ad) bs.length bs) (h4 : bs.take 4 = MG) (hl : 4 ≤ bs.length) : (convert 28 9 (.slice (some ad) 4 c)).run Try.prog W = .ok (.string ⟨#[78, 78, 84, 49]⟩) W := by
  have h1 := C_take h hl
  rw [h4] at h1
  rw [Kd.C_string Try.underlying28 Try.underlying5 Try.underlying9 h1]
  rfl
/-- The parts of a network that stand ahead of its constants. -/
structure Hd (bs : List Int) (a b c o : Int) (m k : Nat) (s : List Int × Int) : Prop where
  ex : ∃ s1 s2 s3, lst 3 (bs.drop 4, 0) = ([a, b, c], s1) ∧ many 80 s1 = ((m : Int), s2) ∧ many 40 s2 = ((k : Int), s3) ∧ num s3 = (o, s)
  m80 : m ≤ 80
  k40 : k ≤ 40
theorem three_of {l : List Int} (h : l.length = 3) : ∃ a b c, l = [a, b, c] := by
  obtain ⟨a, r, rfl, h1⟩ := cons_of (n := 2) h
  obtain ⟨b, r, rfl, h2⟩ := cons_of (n := 1) h1
  obtain ⟨c, r, rfl, h3⟩ := cons_of (n := 0) h2
  obtain rfl := List.eq_nil_of_length_eq_zero h3
  exact ⟨a, b, c, rfl⟩
theorem Hd_of (bs : List Int) : ∃ a b c o m k s, Hd bs a b c o m k s := by
  obtain ⟨l, s1, h1, hl⟩ := lst_eq 3 (bs.drop 4, 0)
  obtain ⟨a, b, c, rfl⟩ := three_of hl
  obtain ⟨m, s2, h2, hm⟩ := many_eqn 80 (by decide) s1
  obtain ⟨k, s3, h3, hk⟩ := many_eqn 40 (by decide) s2
  exact ⟨a, b, c, _, m, k, _, ⟨s1, s2, s3, h1, h2, h3, rfl⟩, by omega, by omega⟩
/-- What reading a network leaves. -/
def PQ (w : World) (a b c o : Int) (rc : List (List Int × List Int) × (List Int × Int)) (rn : List (List Int) × (List Int × Int)) (e : Ending) (w' : World) : Prop :=
  Below w.heap.size w w' ∧ (let f := if rn.2.1 = [] then rn.2.2 else fails 4 rn.2.2
    if f = 0 then ∃ u v, e = .returned (.tuple #[.agg #[.int .i64 a, .int .i64 b, .int .i64 c, u, v, .int .i64 o], .int .i64 0]) ∧ kCo.R 42 w' w.heap.size (fun _ => True) u rc.1 ∧ kNd.R 55 w' w.heap.size (fun _ => True) v rn.1
    else e = .returned (.tuple #[.agg ZG, .int .i64 f]))
theorem R_sets {α : Type} {d : Kd α} {e base g t : Nat} {ok : Nat → Prop} {v : Value} {xs : List α} (ht : ∀ q, q ∈ e :: d.E → q ≠ t) : ∀ (l : List Value) (o : Nat) (W : World) (cells : Array Value), d.R e W base ok v xs → W.heap[g]? = some (.cells cells t (0, 0)) → d.R e (W.setCells g o l) base ok v xs
  | [], _, _, _, h, _ => h
  | u :: r, o, W, cells, h, hk => R_sets ht r (o + 1) _ _ (Kd.R_set h hk ht o u) (blk_put hk o u rfl)
theorem PQ_ok {w : World} {a b c o : Int} {rc : List (List Int × List Int) × (List Int × Int)} {rn : List (List Int) × (List Int × Int)} {e : Ending} {w' : World} (hB : Below w.heap.size w w') (hf : (if rn.2.1 = [] then rn.2.2 else fails 4 rn.2.2) = 0) {u v : Value} (he : e = .returned (.tuple #[.agg #[.int .i64 a, .int .i64 b, .int .i64 c, u, v, .int .i64 o], .int .i64 0])) (hu : kCo.R 42 w' w.heap.size (fun _ => True) u rc.1) (hv : kNd.R 55 w' w.heap.size (fun _ => True) v rn.1) : PQ w a b c o rc rn e w' := by
  refine ⟨hB, ?_⟩
  simp only [hf, if_true]
  exact ⟨u, v, he, hu, hv⟩
theorem PQ_err {w : World} {a b c o f : Int} {rc : List (List Int × List Int) × (List Int × Int)} {rn : List (List Int) × (List Int × Int)} {e : Ending} {w' : World} (hB : Below w.heap.size w w') (hf : (if rn.2.1 = [] then rn.2.2 else fails 4 rn.2.2) = f) (h0 : f ≠ 0) (he : e = .returned (.tuple #[.agg ZG, .int .i64 f])) : PQ w a b c o rc rn e w' := by
  refine ⟨hB, ?_⟩
  simp only [hf, if_neg h0]
  exact he
theorem grown_sets {g : Nat} : ∀ (l : List Value) (o : Nat) (W : World), W.grownBy (W.setCells g o l) (some g)
  | [], _, _ => grown_refl _ _
  | v :: r, o, W => grown_trans (grown_set W g o v) (grown_sets r (o + 1) _)
set_option maxHeartbeats 16000000 in
theorem parse_is (ad : Addr) (cap : Nat) (bs : List Int) (w : World) (hb : okB bs) (hn : 28 ≤ bs.length) (hx : bs.length ≤ 1048576) (h4 : bs.take 4 = MG) (hc : bs.length ≤ cap) (hC : Kd.C (Kd.int .u8) w (some ad) bs.length bs) (hab : ad.block < w.heap.size)
    (a b c o : Int) (m k : Nat) (s : List Int × Int) (H : Hd bs a b c o m k s) :
    Calls Try.prog 10 #[.slice (some ad) bs.length cap] w fun e w' => PQ w a b c o (rep con m s) (rep nod k (rep con m s).2) e w' := by
  obtain ⟨⟨s1, s2, s3, e1, e2, e3, e4⟩, hm, hk⟩ := H
  have o1 : okB s1.1 := by have := lst_ok (s := (bs.drop 4, 0)) (fun x hx => hb x (List.mem_of_mem_drop hx)) 3; rw [e1] at this; exact this
  have o2 : okB s2.1 := by have := many_ok (most := 80) o1; rw [e2] at this; exact this
  have o3 : okB s3.1 := by have := many_ok (most := 40) o2; rw [e3] at this; exact this
  have o4 : okB s.1 := by have := num_ok o3; rw [e4] at this; exact this
  have E1 := Lib.hid e1
  have E2 := Lib.hid e2
  have E3 := Lib.hid e3
  have E4 := Lib.hid e4
  clear e1 e2 e3 e4
  have d1 : decide ((1048576 : Int) < (bs.length : Int)) = false := decide_eq_false (by omega)
  have d2 : decide ((bs.length : Int) < (28 : Int)) = false := decide_eq_false (by omega)
  have z1 := fun W => sl_h (ad := ad) (n := bs.length) (c := cap) (h := 4) (by omega) W
  have z2 := fun W => sl_l (ad := ad) (n := bs.length) (c := cap) (h := 4) (by omega) hc W
  have hc4 : cap ≠ 4 := by omega
  have ha4 : ad.add 4 = ⟨ad.block, ad.off + 4, none⟩ := by simp [Addr.add]
  simp only [if_neg hc4, ha4] at z2
  have hA : Below w.heap.size w (w.alloc (.cells #[.int .i64 0, .int .i64 0, .int .i64 0, .slice none 0 0, .slice none 0 0, .int .i64 0] 26)) := below_alloc (Below.refl _ _) _
  have hA2 : Below w.heap.size w ((w.alloc (.cells #[.int .i64 0, .int .i64 0, .int .i64 0, .slice none 0 0, .slice none 0 0, .int .i64 0] 26)).alloc (.cells #[.slice (some ⟨ad.block, ad.off + 4, none⟩) (bs.length - 4) (cap - 4), .int .i64 0] 64)) := below_alloc hA _
  have hcv := mg_conv (c := cap) (Kd.C_below hC hA) h4 (by omega)
  have hmg := mg_eq
  have hR0 : RD ((w.alloc (.cells #[.int .i64 0, .int .i64 0, .int .i64 0, .slice none 0 0, .slice none 0 0, .int .i64 0] 26)).alloc (.cells #[.slice (some ⟨ad.block, ad.off + 4, none⟩) (bs.length - 4) (cap - 4), .int .i64 0] 64)) w.heap.size (w.heap.size + 1) (bs.drop 4, 0) := by
    have e : (w.alloc (.cells #[.int .i64 0, .int .i64 0, .int .i64 0, .slice none 0 0, .slice none 0 0, .int .i64 0] 26)).heap.size = w.heap.size + 1 := by simp
    have hnew := blk_new (w.alloc (.cells #[.int .i64 0, .int .i64 0, .int .i64 0, .slice none 0 0, .slice none 0 0, .int .i64 0] 26)) (.cells #[.slice (some ⟨ad.block, ad.off + 4, none⟩) (bs.length - 4) (cap - 4), .int .i64 0] 64)
    rw [e] at hnew
    have hld : (bs.drop 4).length = bs.length - 4 := List.length_drop ..
    have hd := C_tail (h := 4) (by omega) hc (Kd.C_below hC hA2)
    rw [if_neg hc4, ha4] at hd
    refine ⟨⟨ad.block, ad.off + 4, none⟩, cap - 4, by rw [hld]; exact hnew, by rw [hld]; omega, hab, by rw [hld]; exact hd⟩
  have HR0 := Lib.hid hR0
  have HC := Lib.hid hC
  have HA2 := Lib.hid hA2
  have HRES := Lib.hid (blk_alloc (blk_new w (.cells #[.int .i64 0, .int .i64 0, .int .i64 0, .slice none 0 0, .slice none 0 0, .int .i64 0] 26)) (.cells #[.slice (some ⟨ad.block, ad.off + 4, none⟩) (bs.length - 4) (cap - 4), .int .i64 0] 64))
  clear hR0 hC hA hA2
  go_enter Try.func10, Try.ntmps10
  apply wp_seq_k; intro K1 hK1; have HK1 := Lib.hid hK1; clear hK1
  go_wp2
  refine HK1.out _ _ ?_; clear HK1
  apply wp_seq_k; intro K1 hK1; have HK1 := Lib.hid hK1; clear hK1
  go_wp2
  refine HK1.out _ _ ?_; clear HK1
  apply wp_seq_k; intro K1 hK1; have HK1 := Lib.hid hK1; clear hK1
  go_wp2
  refine HK1.out _ _ ?_; clear HK1
  clear d1 d2 z1 z2 hcv hmg
  apply wp_seq_k; intro K1 hK1; have HK1 := Lib.hid hK1; clear hK1
  go_wp2_with (go_at_call 19; refine (list_l w.heap.size (w.heap.size + 1) 3 _ s1 _ _ E1.out (Nat.le_succ _) (by decide) (fun x hx => hb x (List.mem_of_mem_drop hx)) HR0.out).mono ?_; rintro e W2 ⟨v2, rfl, hRv, hR1, hg1⟩; obtain ⟨gl, cl, rfl, hgl0, hgl1, -⟩ := Kd.R_form hRv (by simp); have hCl := (Kd.R_reads' hRv).2.2; have p0 := C_at hCl (i := 0) rfl; have p1 := C_at hCl (i := 1) rfl; have p2 := C_at hCl (i := 2) rfl; have q1 := arr22 (some ⟨gl, 0, none⟩) cl; have HR1 := Lib.hid hR1; have HG1 := Lib.hid hg1; clear hRv hR1 hg1 hCl)
  have hgr := RD_lt HR1.out
  have HPS : PS w (w.heap.size + 1) W2.heap.size (W2.alloc (.cells #[.int .i64 a, .int .i64 b, .int .i64 c, .slice none 0 0, .slice none 0 0, .int .i64 0] 26)) (.slice none 0 0) (.slice none 0 0) a b c 0 [] [] s1 :=
    ⟨blk_alloc ((HG1.out.block _ (blk_lt HRES.out) (fun e => by injection e with e; omega)).trans HRES.out) _, blk_new _ _, Kd.R_nil _ _ _ _ _, Kd.R_nil _ _ _ _ _,
      RD_step HR1.out ((below_alloc (Below.refl _ _) _).mono (by omega)) (Below.heap_alloc _ _ _ hgr), (HA2.out.trans (grown_low HG1.out (Nat.le_succ _) HA2.out.size)).alloc (by omega) _⟩
  have hP1 := Lib.hid HPS
  clear HPS HR1 HG1 HRES HA2 HR0 HC E1 p0 p1 p2 q1
  refine HK1.out _ _ ?_; clear HK1
  generalize W2.alloc (.cells #[.int .i64 a, .int .i64 b, .int .i64 c, .slice none 0 0, .slice none 0 0, .int .i64 0] 26) = W3 at *
  generalize W2.heap.size = gg at *
  obtain ⟨gr, hgre⟩ : ∃ gr, w.heap.size + 1 = gr := ⟨_, rfl⟩
  rw [hgre] at hP1 hgr ⊢
  have h0 : w.heap.size < gr := by omega
  have hle : w.heap.size ≤ gr := by omega
  clear hgre
  apply wp_seq_k; intro K1 hK1; have HK1 := Lib.hid hK1; clear hK1
  go_wp2_with (first
    | (go_at_call 20; refine (many_mn w.heap.size gr 80 s1 s2 m _ E2.out hle o1 hP1.out.rd).mono ?_; rintro e W4 ⟨rfl, hR1, hg1⟩; have hP2 := Lib.hid (hP1.out.grown hg1 h0 hgr hR1); clear hP1 hR1 hg1)
    | (go_at_call 20; refine (many_mn w.heap.size gr 40 s2 s3 k _ E3.out hle o2 hP2.out.rd).mono ?_; rintro e W5 ⟨rfl, hR1, hg1⟩; have hP3 := Lib.hid (hP2.out.grown hg1 h0 hgr hR1); clear hP2 hR1 hg1))
  refine HK1.out _ _ ?_; clear HK1
  apply wp_seq_k; intro K1 hK1; have HK1 := Lib.hid hK1; clear hK1
  go_wp2_with (go_at_call 21; refine (num_n w.heap.size gr s3 s o _ E4.out hle o3 hP3.out.rd).mono ?_; rintro e W6 ⟨rfl, hR1, hg1⟩; have hP4 := Lib.hid (hP3.out.grown hg1 h0 hgr hR1); clear hP3 hR1 hg1; have c5 := (blk_cell hP4.out.blk 5).trans (show _ = some (Value.int .i64 0) from rfl); have f5 := blk_frozen hP4.out.blk 5)
  refine HK1.out _ _ ?_; clear HK1
  have hP5 := Lib.hid (hP4.out.seto h0 hgr o)
  clear hP4 c5 f5 E2 E3 E4
  apply wp_seq_k; intro K1 hK1; have HK1 := Lib.hid hK1; clear hK1
  go_wp2
  generalize W6.setCell ⟨gg, 5, none⟩ (.int .i64 o) = W7 at hP5 ⊢
  refine wp_loopS [41, 42, 43, 44, 45, 46, 47, 48, 49, 50] (fun sl W => ∃ i : Nat, sl 41 = .int .i64 (i : Int) ∧ i ≤ m ∧ ∃ u, PS w gr gg W u (.slice none 0 0) a b c o (rep con i s).1 [] (rep con i s).2) (fun sl W => Msr (m : Int) (sl 41)) ⟨0, rfl, Nat.zero_le _, _, hP5.out⟩ ?_
  intro vs1 W1 a1 hb1 hI
  obtain ⟨i, hsl, hi, u1, hS⟩ := hI
  simp only [setSlots, Act.put, List.setIfInBounds_toArray, List.set_cons_succ, List.set_cons_zero] at hb1
  subst hb1
  replace hsl : vs1 41 = .int .i64 (i : Int) := hsl
  rw [hsl]
  clear hsl
  have HS := Lib.hid hS
  clear hS
  by_cases hil : i < m
  rotate_left
  clear hP5
  rotate_left
  · have hd : decide ((i : Int) < (m : Int)) = true := decide_eq_true (by omega)
    have hinc : IntKind.i64.wrap ((i : Int) + 1) = (i : Int) + 1 := IntWalk.i64_in _ (by omega)
    have oki := rep_ok (f := con) (fun _ h => con_ok h) o4 i
    go_wp2
    refine wp_drawnD (R := RG w.heap.size gr ((con (rep con i s).2).2)) 5 [.val (.pointer (some ⟨gg, 3, none⟩)), .val (u1), .val (.pointer (some ⟨gr, 0, none⟩)), conS w.heap.size gr ((con (rep con i s).2).2) ((con (rep con i s).2).1), conR w.heap.size gr ((con (rep con i s).2).2) ((con (rep con i s).2).1)] (GD w.heap.size gr 3 ((rep con i s).2) ((con (rep con i s).2).2) W1) rfl (by kernel_rfl) ⟨by rw [if_neg (by decide)]; exact RD_step HS.out.rd ((Below.refl _ _).drew) rfl, grown_below (Below.refl _ _).drew _, hle, RD_lt HS.out.rd⟩ ?_ ?_
    · intro vs W d hG a1 ha1
      have e4 : a1.eval (.tmp 4) = .pointer (some ⟨gr, 0, none⟩) := eo ha1 (by kernel_rfl)
      have e5 : a1.eval (.tmp 5) = .pointer (some ⟨gg, 0, none⟩) := eo ha1 (by kernel_rfl)
      have i43 := ei (d := 43) ha1 0 (by kernel_rfl) rfl rfl (by simp)
      have i45 := ei (d := 45) ha1 2 (by kernel_rfl) rfl rfl (by simp)
      have i46 := ei (d := 46) ha1 3 (by kernel_rfl) rfl rfl (by simp)
      clear ha1
      refine And.intro ?_ (And.intro ?_ (And.intro ?_ (And.intro ?_ (And.intro ?_ (trivial)))))
      · intro hd hp K hK
        refine g_no rfl ?_
        exact st_field rfl (e5) (by kernel_rfl) (hK _ _ rfl (GD_other hG (by decide)) (RG_refl _ _ _ _))
      · intro hd hp K hK
        refine g_no rfl ?_
        have e43 : a1.eval (.tmp 43) = _ := i43.trans (hp 0 (by kernel_rfl))
        exact st_load rfl (e43) (ld_cell 23 (by kernel_rfl) ((blk_cell ((hG.2.1.block _ (blk_lt HS.out.blk) (fun e => by injection e with e; omega)).trans HS.out.blk) 3).trans rfl)) (hK _ _ rfl (GD_other hG (by decide)) (RG_refl _ _ _ _))
      · intro hd hp K hK
        refine g_no rfl ?_
        exact st_move (.inl rfl) (e4) (hK _ _ rfl (GD_other hG (by decide)) (RG_refl _ _ _ _))
      · intro hd hp K hK
        refine g_no rfl ?_
        have e45 : a1.eval (.tmp 45) = _ := i45.trans (hp 2 (by kernel_rfl))
        refine st_call rfl (by first | (simp only [List.map_toArray, List.map_cons, List.map_nil, eval_const, e45]; done) | (simp only [List.map_toArray, List.map_cons, List.map_nil, eval_const, e45]; rfl)) (by kernel_rfl) ?_
        refine (const_is w.heap.size gr ((rep con i s).2) _ hle oki (GD_call hG hd)).mono ?_
        rintro e w' ⟨p1, p2, rfl, r1, r2, hR', hg'⟩
        exact ⟨_, rfl, hK _ _ ⟨p1, p2, rfl, Kd.R_lower r1 (RG_new hG), Kd.R_lower r2 (RG_new hG), hR'⟩ (GD_done hG hR' hg') ⟨hg', fun _ => hR'⟩⟩
      · intro hd hp K hK
        refine g_no rfl ?_
        have q3 : ∃ p1 p2, (vs 3) = .agg #[p1, p2] ∧ Kd.R (Kd.int .i8) 61 W (gr + 1) (fun _ => True) p1 ((con (rep con i s).2).1).1 ∧ Kd.R (Kd.int .i32) 21 W (gr + 1) (fun _ => True) p2 ((con (rep con i s).2).1).2 ∧ RD W w.heap.size gr ((con (rep con i s).2).2) := hp 3 (by kernel_rfl)
        obtain ⟨p1, p2, hv3, r1, r2, -⟩ := q3
        have e46 := i46.trans hv3
        exact st_buildSlice rfl (by first | (simp only [List.map_toArray, List.map_cons, List.map_nil, eval_const, e46]; done) | (simp only [List.map_toArray, List.map_cons, List.map_nil, eval_const, e46]; rfl)) (by kernel_rfl) (hK _ _ ⟨_, p1, p2, rfl, blk_new _ _, RG_new hG, Kd.R_alloc r1 _, Kd.R_alloc r2 _⟩ (GD_alloc hG (by decide) _) (RG_alloc hG _))
    intro vs W d hG hp a1 ha1
    have q0 : vs 0 = _ := hp 0 (by decide)
    have q1 : vs 1 = _ := hp 1 (by decide)
    have q2 : vs 2 = _ := hp 2 (by decide)
    have q3 : ∃ p1 p2, (vs 3) = .agg #[p1, p2] ∧ Kd.R (Kd.int .i8) 61 W (gr + 1) (fun _ => True) p1 ((con (rep con i s).2).1).1 ∧ Kd.R (Kd.int .i32) 21 W (gr + 1) (fun _ => True) p2 ((con (rep con i s).2).1).2 ∧ RD W w.heap.size gr ((con (rep con i s).2).2) := hp 3 (by decide)
    have q4 : ∃ g4 p1 p2, (vs 4) = .slice (some ⟨g4, 0, none⟩) 1 1 ∧ W.heap[g4]? = some (.cells #[p1, p2] 42 (0, 0)) ∧ gr < g4 ∧ Kd.R (Kd.int .i8) 61 W (gr + 1) (fun _ => True) p1 ((con (rep con i s).2).1).1 ∧ Kd.R (Kd.int .i32) 21 W (gr + 1) (fun _ => True) p2 ((con (rep con i s).2).1).2 := hp 4 (by decide)
    clear hp
    simp only [fill, Act.put, List.append_eq, List.cons_append, List.nil_append, List.take_succ_cons, List.take_zero, List.setIfInBounds_toArray, List.set_cons_succ, List.set_cons_zero, Nat.reduceAdd, Nat.zero_add, q0, q1, q2] at ha1
    subst ha1
    simp only [List.append_eq, List.cons_append, List.nil_append, List.drop_succ_cons, List.drop_zero]
    clear q0 q1 q2
    obtain ⟨-, -, -, -, -, hR5⟩ := q3
    obtain ⟨g4, p1, p2, hv4, hb4, hg4, r1, r2⟩ := q4
    rw [hv4]
    clear hv4
    generalize vs 3 = v3
    have HCS := Lib.hid (HS.out.grown hG.2.1 h0 hgr hR5)
    clear hR5 hG HS
    have hX : rep con (i + 1) s = ((rep con i s).1 ++ [(con (rep con i s).2).1], (con (rep con i s).2).2) := rfl
    have HX := Lib.hid hX
    clear hX
    generalize con (rep con i s).2 = xx at *
    have HK := fun (y : List Int × List Int) (ds : List Value) (h : y = xx.1 ∧ ds = [p1, p2]) => (show kCo.M W (gr + 1) (fun k => some k ≠ Value.ownBlock u1) y ds from by obtain ⟨rfl, rfl⟩ := h; exact kCo_M (R_okne r1 (Kd.R_typed HCS.out.ru) (by decide)) (R_okne r2 (Kd.R_typed HCS.out.ru) (by decide)))
    have HKH := Lib.hid HK
    have HB4 := Lib.hid hb4
    clear HK r1 r2 hb4
    go_wp2_with ((with_reducible refine gate_builtin (b := .append) (xs := #[.tmp 44, .tmp 47]) rfl ?_); at_builtin; refine Kd.R_append_rows kCo (Rr := fun y ds => y = xx.1 ∧ ds = [p1, p2]) (w0 := W) (gr + 1) rfl (.tmp 44) (.tmp 47) 23 42 (.agg #[.slice none 0 0, .slice none 0 0]) 48 rfl Try.underlying23 info42 rfl (by decide) (by omega) u1 (rep con i s).1 [xx.1] (some ⟨g4, 0, none⟩) 1 1 (fun _ => True) (fun k => some k ≠ Value.ownBlock u1) rfl rfl HCS.out.ru (row_one (cs := [p1, p2]) HB4.out) (HKH.out) (fun k hk => ⟨trivial, hk⟩) (fun _ _ => trivial) (Below.refl _ _) (RD_lt HCS.out.rd) (by rw [rep_len]; omega) ?_; intro v9 w3 ho3 hb3 hg3 hat3; obtain ⟨A9, n9, c9, rfl⟩ := R_slc ho3; have HS3 := Lib.hid (HCS.out.setu h0 hgr ho3 hb3 hg3); have hk3 := (hg3.block _ (blk_lt HCS.out.blk) (Kd.R_ne HCS.out.ru HCS.out.blk (by decide))).trans HCS.out.blk; have c3 := (blk_cell hk3 3).trans (show _ = some (u1) from rfl); have f3 := blk_frozen hk3 3; clear ho3 hb3 hg3 hat3 hk3)
    exact ⟨loop_frame (by kernel_rfl), ⟨i + 1, by show Value.int .i64 _ = _; simp, by omega, _, by rw [HX.out]; exact HS3.out⟩, Msr.lt (by omega)⟩
  · have hd : decide ((i : Int) < (m : Int)) = false := decide_eq_false (by omega)
    obtain rfl : i = m := by omega
    go_wp2
    refine HK1.out _ _ ?_; clear HK1
    apply wp_seq_k; intro K1 hK1; have HK1 := Lib.hid hK1; clear hK1
    go_wp2
    have okj := rep_ok (f := con) (fun _ h => con_ok h) o4 i
    obtain ⟨t, ht⟩ : ∃ t, (rep con i s).2 = t := ⟨_, rfl⟩
    obtain ⟨cl1, hcl1⟩ : ∃ cl1, (rep con i s).1 = cl1 := ⟨_, rfl⟩
    rw [ht] at okj
    have HT := Lib.hid ht
    have HCL := Lib.hid hcl1
    have HS0 := Lib.hid (show PS w gr gg W1 u1 (.slice none 0 0) a b c o cl1 [] t from by rw [← ht, ← hcl1]; exact HS.out)
    clear ht hcl1 HS hd
    have hic : i ≤ 80 := hm
    clear hil hi hm
    refine wp_loopS [52, 53, 54, 55, 56, 57, 58, 59, 60, 61] (fun sl W => ∃ i : Nat, sl 52 = .int .i64 (i : Int) ∧ i ≤ k ∧ ∃ u, PS w gr gg W u1 u a b c o cl1 (rep nod i t).1 (rep nod i t).2) (fun sl W => Msr (k : Int) (sl 52)) ⟨0, rfl, Nat.zero_le _, _, HS0.out⟩ ?_
    intro vs2 W2 a2 hb2 hI
    obtain ⟨i2, hsl, hi, u2, hS⟩ := hI
    simp only [setSlots, Act.put, List.setIfInBounds_toArray, List.set_cons_succ, List.set_cons_zero] at hb2
    subst hb2
    replace hsl : vs2 52 = .int .i64 (i2 : Int) := hsl
    rw [hsl]
    clear hsl
    have HS := Lib.hid hS
    clear hS
    by_cases hil : i2 < k
    rotate_left
    clear HS0
    rotate_left
    · have hd : decide ((i2 : Int) < (k : Int)) = true := decide_eq_true (by omega)
      have hinc : IntKind.i64.wrap ((i2 : Int) + 1) = (i2 : Int) + 1 := IntWalk.i64_in _ (by omega)
      have oki := rep_ok (f := nod) (fun _ h => nod_ok h) okj i2
      go_wp2
      refine wp_drawnD (R := RG w.heap.size gr ((nod (rep nod i2 t).2).2)) 5 [.val (.pointer (some ⟨gg, 4, none⟩)), .val (u2), .val (.pointer (some ⟨gr, 0, none⟩)), callS w.heap.size gr ((nod (rep nod i2 t).2).2) (.agg (nrow ((nod (rep nod i2 t).2).1)).toArray), newR w.heap.size gr ((nod (rep nod i2 t).2).2) (nrow ((nod (rep nod i2 t).2).1)).toArray 55] (GD w.heap.size gr 3 ((rep nod i2 t).2) ((nod (rep nod i2 t).2).2) W2) rfl (by kernel_rfl) ⟨by rw [if_neg (by decide)]; exact RD_step HS.out.rd ((Below.refl _ _).drew) rfl, grown_below (Below.refl _ _).drew _, hle, RD_lt HS.out.rd⟩ ?_ ?_
      · intro vs W d hG a1 ha1
        have e4 : a1.eval (.tmp 4) = .pointer (some ⟨gr, 0, none⟩) := eo ha1 (by kernel_rfl)
        have e5 : a1.eval (.tmp 5) = .pointer (some ⟨gg, 0, none⟩) := eo ha1 (by kernel_rfl)
        have i54 := ei (d := 54) ha1 0 (by kernel_rfl) rfl rfl (by simp)
        have i56 := ei (d := 56) ha1 2 (by kernel_rfl) rfl rfl (by simp)
        have i57 := ei (d := 57) ha1 3 (by kernel_rfl) rfl rfl (by simp)
        clear ha1
        refine And.intro ?_ (And.intro ?_ (And.intro ?_ (And.intro ?_ (And.intro ?_ (trivial)))))
        · intro hd hp K hK
          refine g_no rfl ?_
          exact st_field rfl (e5) (by kernel_rfl) (hK _ _ rfl (GD_other hG (by decide)) (RG_refl _ _ _ _))
        · intro hd hp K hK
          refine g_no rfl ?_
          have e54 : a1.eval (.tmp 54) = _ := i54.trans (hp 0 (by kernel_rfl))
          exact st_load rfl (e54) (ld_cell 24 (by kernel_rfl) ((blk_cell ((hG.2.1.block _ (blk_lt HS.out.blk) (fun e => by injection e with e; omega)).trans HS.out.blk) 4).trans rfl)) (hK _ _ rfl (GD_other hG (by decide)) (RG_refl _ _ _ _))
        · intro hd hp K hK
          refine g_no rfl ?_
          exact st_move (.inl rfl) (e4) (hK _ _ rfl (GD_other hG (by decide)) (RG_refl _ _ _ _))
        · intro hd hp K hK
          refine g_no rfl ?_
          have e56 : a1.eval (.tmp 56) = _ := i56.trans (hp 2 (by kernel_rfl))
          refine st_call rfl (by first | (simp only [List.map_toArray, List.map_cons, List.map_nil, eval_const, e56]; done) | (simp only [List.map_toArray, List.map_cons, List.map_nil, eval_const, e56]; rfl)) (by kernel_rfl) ?_
          refine (node_is w.heap.size gr ((rep nod i2 t).2) _ hle oki (GD_call hG hd)).mono ?_
          rintro e w' ⟨rfl, hR', hg'⟩
          exact ⟨_, rfl, hK _ _ ⟨rfl, hR'⟩ (GD_done hG hR' hg') ⟨hg', fun _ => hR'⟩⟩
        · intro hd hp K hK
          refine g_no rfl ?_
          have q3 : (vs 3) = .agg (nrow ((nod (rep nod i2 t).2).1)).toArray ∧ RD W w.heap.size gr ((nod (rep nod i2 t).2).2) := hp 3 (by kernel_rfl)
          
          have e57 := i57.trans q3.1
          exact st_buildSlice rfl (by first | (simp only [List.map_toArray, List.map_cons, List.map_nil, eval_const, e57]; done) | (simp only [List.map_toArray, List.map_cons, List.map_nil, eval_const, e57]; rfl)) (by kernel_rfl) (hK _ _ ⟨_, rfl, blk_new _ _, RG_new hG⟩ (GD_alloc hG (by decide) _) (RG_alloc hG _))
      intro vs W d hG hp a1 ha1
      have q0 : vs 0 = _ := hp 0 (by decide)
      have q1 : vs 1 = _ := hp 1 (by decide)
      have q2 : vs 2 = _ := hp 2 (by decide)
      have q3 : (vs 3) = .agg (nrow ((nod (rep nod i2 t).2).1)).toArray ∧ RD W w.heap.size gr ((nod (rep nod i2 t).2).2) := hp 3 (by decide)
      have q4 : ∃ g4, (vs 4) = .slice (some ⟨g4, 0, none⟩) 1 1 ∧ W.heap[g4]? = some (.cells (nrow ((nod (rep nod i2 t).2).1)).toArray 55 (0, 0)) ∧ gr < g4 := hp 4 (by decide)
      clear hp
      simp only [fill, Act.put, List.append_eq, List.cons_append, List.nil_append, List.take_succ_cons, List.take_zero, List.setIfInBounds_toArray, List.set_cons_succ, List.set_cons_zero, Nat.reduceAdd, Nat.zero_add, q0, q1, q2] at ha1
      subst ha1
      simp only [List.append_eq, List.cons_append, List.nil_append, List.drop_succ_cons, List.drop_zero]
      clear q0 q1 q2
      obtain ⟨-, hR5⟩ := q3
      obtain ⟨g4, hv4, hb4, hg4⟩ := q4
      rw [hv4]
      clear hv4
      generalize vs 3 = v3
      have HCS := Lib.hid (HS.out.grown hG.2.1 h0 hgr hR5)
      clear hR5 hG HS
      have hX : rep nod (i2 + 1) t = ((rep nod i2 t).1 ++ [(nod (rep nod i2 t).2).1], (nod (rep nod i2 t).2).2) := rfl
      have HX := Lib.hid hX
      clear hX
      generalize nod (rep nod i2 t).2 = xx at *
      have HB4 := Lib.hid hb4
      clear hb4
      go_wp2_with ((with_reducible refine gate_builtin (b := .append) (xs := #[.tmp 55, .tmp 58]) rfl ?_); at_builtin; refine Kd.R_append_rows kNd (Rr := fun y ds => y = xx.1 ∧ ds = nrow xx.1) (w0 := W) (gr + 1) rfl (.tmp 55) (.tmp 58) 24 55 (.agg (nrow []).toArray) 200 rfl Try.underlying24 info55 rfl (by decide) (by omega) u2 (rep nod i2 t).1 [xx.1] (some ⟨g4, 0, none⟩) 1 1 (fun _ => True) (fun _ => False) rfl rfl HCS.out.rv (row_one (cs := nrow xx.1) HB4.out) (fun y ds h => (by obtain ⟨rfl, rfl⟩ := h; rfl)) (fun k hk => hk.elim) (fun _ _ => trivial) (Below.refl _ _) (RD_lt HCS.out.rd) (by rw [rep_len]; omega) ?_; intro v9 w3 ho3 hb3 hg3 hat3; obtain ⟨A9, n9, c9, rfl⟩ := R_slc ho3; have HS3 := Lib.hid (HCS.out.setv h0 hgr ho3 hb3 hg3); have hk3 := (hg3.block _ (blk_lt HCS.out.blk) (Kd.R_ne HCS.out.rv HCS.out.blk (by decide))).trans HCS.out.blk; have c3 := (blk_cell hk3 4).trans (show _ = some (u2) from rfl); have f3 := blk_frozen hk3 4; clear ho3 hb3 hg3 hat3 hk3)
      exact ⟨loop_frame (by kernel_rfl), ⟨i2 + 1, by show Value.int .i64 _ = _; simp, by omega, _, by rw [HX.out]; exact HS3.out⟩, Msr.lt (by omega)⟩
    · have hd : decide ((i2 : Int) < (k : Int)) = false := decide_eq_false (by omega)
      obtain rfl : i2 = k := by omega
      go_wp2
      refine HK1.out _ _ ?_; clear HK1
      obtain ⟨rn, hrn⟩ : ∃ rn, rep nod i2 t = rn := ⟨_, rfl⟩
      have HRN := Lib.hid (show rep nod i2 (rep con i s).2 = rn from by rw [HT.out, hrn])
      rw [hrn] at HS
      clear hrn hil hd
      obtain ⟨A1, n1, c1, rfl⟩ := R_slc HS.out.ru
      obtain ⟨A2, n2, c2, rfl⟩ := R_slc HS.out.rv
      by_cases hre : rn.2.1 = []
      · have hf : (if rn.2.1 = [] then rn.2.2 else fails 4 rn.2.2) = rn.2.2 := if_pos hre
        have HF := Lib.hid hf
        clear hf
        obtain ⟨ad', cp', hgb, -⟩ := HS.out.rd
        rw [hre] at hgb
        have k0 := (blk_cell hgb 0).trans (show _ = some (Value.slice (some ad') 0 cp') from rfl)
        have k1 := (blk_cell hgb 1).trans (show _ = some (Value.int .i64 rn.2.2) from rfl)
        have HGB := Lib.hid hgb
        clear hgb
        have HRE := Lib.hid hre
        clear hre
        by_cases hz : rn.2.2 = 0
        · have HZ := Lib.hid hz
          rw [hz] at k1
          clear hz
          have g0 := (blk_cell HS.out.blk 0).trans (show _ = some (Value.int .i64 a) from rfl)
          have g1 := (blk_cell HS.out.blk 1).trans (show _ = some (Value.int .i64 b) from rfl)
          have g2 := (blk_cell HS.out.blk 2).trans (show _ = some (Value.int .i64 c) from rfl)
          have g3 := (blk_cell HS.out.blk 3).trans (show _ = some (Value.slice A1 n1 c1) from rfl)
          have g4 := (blk_cell HS.out.blk 4).trans (show _ = some (Value.slice A2 n2 c2) from rfl)
          have g5 := (blk_cell HS.out.blk 5).trans (show _ = some (Value.int .i64 o) from rfl)
          have z0 := (blk_cell HS.out.res 0).trans (show _ = some (Value.int .i64 0) from rfl)
          have z1 := (blk_cell HS.out.res 1).trans (show _ = some (Value.int .i64 0) from rfl)
          have z2 := (blk_cell HS.out.res 2).trans (show _ = some (Value.int .i64 0) from rfl)
          have z3 := (blk_cell HS.out.res 3).trans (show _ = some (Value.slice none 0 0) from rfl)
          have z4 := (blk_cell HS.out.res 4).trans (show _ = some (Value.slice none 0 0) from rfl)
          have z5 := (blk_cell HS.out.res 5).trans (show _ = some (Value.int .i64 0) from rfl)
          have f0 := blk_frozen HS.out.res 0
          have f1 := blk_frozen HS.out.res 1
          have f2 := blk_frozen HS.out.res 2
          have f3 := blk_frozen HS.out.res 3
          have f4 := blk_frozen HS.out.res 4
          have f5 := blk_frozen HS.out.res 5
          apply wp_seq_k; intro K1 hK1; have HK1 := Lib.hid hK1; clear hK1
          go_wp2
          refine HK1.out _ _ ?_; clear HK1
          apply wp_seq_k; intro K1 hK1; have HK1 := Lib.hid hK1; clear hK1
          go_wp2
          refine HK1.out _ _ ?_; clear HK1
          go_wp2
          change bodyPost _ _ _ _ _ (W2.setCells w.heap.size 0 [.int .i64 a, .int .i64 b, .int .i64 c, .slice A1 n1 c1, .slice A2 n2 c2, .int .i64 o])
          have X1 := blk_puts (cs' := #[.int .i64 a, .int .i64 b, .int .i64 c, .slice A1 n1 c1, .slice A2 n2 c2, .int .i64 o]) HS.out.res rfl
          have X2 := R_sets (by decide) [.int .i64 a, .int .i64 b, .int .i64 c, .slice A1 n1 c1, .slice A2 n2 c2, .int .i64 o] 0 _ _ HS.out.ru HS.out.res
          have X3 := R_sets (by decide) [.int .i64 a, .int .i64 b, .int .i64 c, .slice A1 n1 c1, .slice A2 n2 c2, .int .i64 o] 0 _ _ HS.out.rv HS.out.res
          have X4 : Below w.heap.size w (W2.setCells w.heap.size 0 [.int .i64 a, .int .i64 b, .int .i64 c, .slice A1 n1 c1, .slice A2 n2 c2, .int .i64 o]) := below_setsL _ 0 0 HS.out.bel (Nat.le_refl _)
          refine bodyPost_ret (results_ct rfl _ _ (w.heap.size) 26 #[.int .i64 a, .int .i64 b, .int .i64 c, .slice A1 n1 c1, .slice A2 n2 c2, .int .i64 o] (0, 0) _ rfl X1 Try.underlying26 rfl (by kernel_rfl)) rfl ?_
          rw [HRN.out]
          exact PQ_ok X4 (HF.out.trans HZ.out) rfl (by rw [HCL.out]; exact Kd.R_lower X2 (by omega)) (Kd.R_lower X3 (by omega))
        · have hn : (rn.2.2 != 0) = true := by simpa using hz
          apply wp_seq_k; intro K1 hK1; have HK1 := Lib.hid hK1; clear hK1
          go_wp2
          refine HK1.out _ _ ?_; clear HK1
          apply wp_seq_k; intro K1 hK1; have HK1 := Lib.hid hK1; clear hK1
          go_wp2
          have HS8 := Lib.hid HS.out
          refine wp_drawn (R := fun W W' => W.grownBy W' (some w.heap.size)) 7 [.val (.agg #[.int .i64 0, .int .i64 0, .int .i64 0, .slice none 0 0, .slice none 0 0, .int .i64 0]), .val (.pointer (some ⟨gr, 0, none⟩)), .val (.pointer (some ⟨gr, 0, none⟩)), .val (.pointer (some ⟨gr, 1, none⟩)), .val (.int .i64 (rn.2.2)), DSpec.any, .val (.int .i64 (rn.2.2))] (fun W => W.heap[w.heap.size]? = some (.cells #[.int .i64 0, .int .i64 0, .int .i64 0, .slice none 0 0, .slice none 0 0, .int .i64 0] 26 (0, 0)) ∧ W2.grownBy W (some w.heap.size)) rfl (by kernel_rfl) ⟨HS8.out.res, grown_below (Below.refl _ _).drew _⟩ ?_ ?_
          · intro vs W hG a1 ha1
            have e2 : a1.eval (.tmp 2) = .pointer (some ⟨w.heap.size, 0, none⟩) := eo ha1 (by kernel_rfl)
            have e4 : a1.eval (.tmp 4) = .pointer (some ⟨gr, 0, none⟩) := eo ha1 (by kernel_rfl)
            have i75 := ei (d := 75) ha1 0 (by kernel_rfl) rfl rfl (by simp)
            have i76 := ei (d := 76) ha1 1 (by kernel_rfl) rfl rfl (by simp)
            have i77 := ei (d := 77) ha1 2 (by kernel_rfl) rfl rfl (by simp)
            have i78 := ei (d := 78) ha1 3 (by kernel_rfl) rfl rfl (by simp)
            have i79 := ei (d := 79) ha1 4 (by kernel_rfl) rfl rfl (by simp)
            clear ha1
            refine And.intro ?_ (And.intro ?_ (And.intro ?_ (And.intro ?_ (And.intro ?_ (And.intro ?_ (And.intro ?_ (trivial)))))))
            · intro hp K hK
              refine g_no rfl ?_
              exact st_build rfl (by first | (simp only [List.map_toArray, List.map_cons, List.map_nil, eval_const]; done) | (simp only [List.map_toArray, List.map_cons, List.map_nil, eval_const]; rfl)) (by kernel_rfl) (hK _ _ rfl hG (grown_refl _ _))
            · intro hp K hK
              refine g_no rfl ?_
              exact st_move (.inl rfl) (e4) (hK _ _ rfl hG (grown_refl _ _))
            · intro hp K hK
              refine g_no rfl ?_
              have e76 : a1.eval (.tmp 76) = _ := i76.trans (hp 1 (by kernel_rfl))
              exact st_nilCheck rfl (e76) (hK _ _ rfl hG (grown_refl _ _))
            · intro hp K hK
              refine g_no rfl ?_
              have e77 : a1.eval (.tmp 77) = _ := i77.trans (hp 2 (by kernel_rfl))
              exact st_field rfl (e77) (by kernel_rfl) (hK _ _ rfl hG (grown_refl _ _))
            · intro hp K hK
              refine g_no rfl ?_
              have e78 : a1.eval (.tmp 78) = _ := i78.trans (hp 3 (by kernel_rfl))
              exact st_load rfl (e78) (ld_cell 29 (by kernel_rfl) ((blk_cell ((hG.2.block _ (blk_lt HGB.out) (fun e => by injection e with e; omega)).trans HGB.out) 1).trans rfl)) (hK _ _ rfl hG (grown_refl _ _))
            · intro hp K hK
              refine g_no rfl ?_
              have e75 : a1.eval (.tmp 75) = _ := i75.trans (hp 0 (by kernel_rfl))
              exact wp_store_mid 26 (.tmp 2) (.tmp 75) rfl w.heap.size 0 #[.int .i64 0, .int .i64 0, .int .i64 0, .slice none 0 0, .slice none 0 0, .int .i64 0] e2 e75 (by have h := blk_there hG.1; exact h) (by kernel_rfl) (by kernel_rfl) (hK undef _ trivial ⟨blk_puts (cs' := #[.int .i64 0, .int .i64 0, .int .i64 0, .slice none 0 0, .slice none 0 0, .int .i64 0]) hG.1 rfl, grown_trans hG.2 (grown_sets _ 0 _)⟩ (grown_sets _ 0 _))
            · intro hp K hK
              refine g_no rfl ?_
              have e79 : a1.eval (.tmp 79) = _ := i79.trans (hp 4 (by kernel_rfl))
              exact st_move (.inr rfl) (e79) (hK _ _ rfl hG (grown_refl _ _))
          intro vs W hG hp a1 ha1
          have q5 : True := hp 5 (by decide)
          have q6 : vs 6 = _ := hp 6 (by decide)
          clear hp
          simp only [fill, Act.put, List.append_eq, List.cons_append, List.nil_append, List.take_succ_cons, List.take_zero, List.setIfInBounds_toArray, List.set_cons_succ, List.set_cons_zero, Nat.reduceAdd, Nat.zero_add, q6] at ha1
          subst ha1
          refine wpList_nil ?_
          clear q6
          have HG := Lib.hid hG
          clear hG
          go_wp2
          refine bodyPost_ret (results_ct rfl _ _ (w.heap.size) 26 #[.int .i64 0, .int .i64 0, .int .i64 0, .slice none 0 0, .slice none 0 0, .int .i64 0] (0, 0) _ rfl HG.out.1 Try.underlying26 rfl (by kernel_rfl)) rfl ?_
          rw [HRN.out]
          exact PQ_err (HS8.out.bel.trans (grown_low HG.out.2 (Nat.le_refl _) HS8.out.bel.size)) HF.out hz rfl
      · have hpos : 0 < rn.2.1.length := List.length_pos_iff.mpr hre
        have hd0 : decide ((0 : Int) < (rn.2.1.length : Int)) = true := decide_eq_true (by omega)
        have hf : (if rn.2.1 = [] then rn.2.2 else fails 4 rn.2.2) = fails 4 rn.2.2 := if_neg hre
        have HF := Lib.hid hf
        clear hf
        have hz : fails 4 rn.2.2 ≠ 0 := by unfold fails; split; exact (by decide); assumption
        have HZ := Lib.hid hz
        have hn : (fails 4 rn.2.2 != 0) = true := by simpa using hz
        obtain ⟨ad', cp', hgb, -⟩ := HS.out.rd
        have k0 := (blk_cell hgb 0).trans (show _ = some (Value.slice (some ad') rn.2.1.length cp') from rfl)
        clear hgb hre hz
        apply wp_seq_k; intro K1 hK1; have HK1 := Lib.hid hK1; clear hK1
        go_wp2_with (go_at_call 24; refine (fails_is w.heap.size gr rn.2 4 _ hle HS.out.rd).mono ?_; rintro e W9 ⟨rfl, hR1, hg1⟩; have HS9 := Lib.hid (HS.out.grown hg1 h0 hgr hR1); clear hR1 hg1)
        obtain ⟨ad9, cp9, hgb, -⟩ := HS9.out.rd
        have k1 := (blk_cell hgb 1).trans (show _ = some (Value.int .i64 (fails 4 rn.2.2)) from rfl)
        have HGB := Lib.hid hgb
        clear hgb HS
        refine HK1.out _ _ ?_; clear HK1
        apply wp_seq_k; intro K1 hK1; have HK1 := Lib.hid hK1; clear hK1
        go_wp2
        have HS8 := Lib.hid HS9.out
        refine wp_drawn (R := fun W W' => W.grownBy W' (some w.heap.size)) 7 [.val (.agg #[.int .i64 0, .int .i64 0, .int .i64 0, .slice none 0 0, .slice none 0 0, .int .i64 0]), .val (.pointer (some ⟨gr, 0, none⟩)), .val (.pointer (some ⟨gr, 0, none⟩)), .val (.pointer (some ⟨gr, 1, none⟩)), .val (.int .i64 (fails 4 rn.2.2)), DSpec.any, .val (.int .i64 (fails 4 rn.2.2))] (fun W => W.heap[w.heap.size]? = some (.cells #[.int .i64 0, .int .i64 0, .int .i64 0, .slice none 0 0, .slice none 0 0, .int .i64 0] 26 (0, 0)) ∧ W9.grownBy W (some w.heap.size)) rfl (by kernel_rfl) ⟨HS8.out.res, grown_below (Below.refl _ _).drew _⟩ ?_ ?_
        · intro vs W hG a1 ha1
          have e2 : a1.eval (.tmp 2) = .pointer (some ⟨w.heap.size, 0, none⟩) := eo ha1 (by kernel_rfl)
          have e4 : a1.eval (.tmp 4) = .pointer (some ⟨gr, 0, none⟩) := eo ha1 (by kernel_rfl)
          have i75 := ei (d := 75) ha1 0 (by kernel_rfl) rfl rfl (by simp)
          have i76 := ei (d := 76) ha1 1 (by kernel_rfl) rfl rfl (by simp)
          have i77 := ei (d := 77) ha1 2 (by kernel_rfl) rfl rfl (by simp)
          have i78 := ei (d := 78) ha1 3 (by kernel_rfl) rfl rfl (by simp)
          have i79 := ei (d := 79) ha1 4 (by kernel_rfl) rfl rfl (by simp)
          clear ha1
          refine And.intro ?_ (And.intro ?_ (And.intro ?_ (And.intro ?_ (And.intro ?_ (And.intro ?_ (And.intro ?_ (trivial)))))))
          · intro hp K hK
            refine g_no rfl ?_
            exact st_build rfl (by first | (simp only [List.map_toArray, List.map_cons, List.map_nil, eval_const]; done) | (simp only [List.map_toArray, List.map_cons, List.map_nil, eval_const]; rfl)) (by kernel_rfl) (hK _ _ rfl hG (grown_refl _ _))
          · intro hp K hK
            refine g_no rfl ?_
            exact st_move (.inl rfl) (e4) (hK _ _ rfl hG (grown_refl _ _))
          · intro hp K hK
            refine g_no rfl ?_
            have e76 : a1.eval (.tmp 76) = _ := i76.trans (hp 1 (by kernel_rfl))
            exact st_nilCheck rfl (e76) (hK _ _ rfl hG (grown_refl _ _))
          · intro hp K hK
            refine g_no rfl ?_
            have e77 : a1.eval (.tmp 77) = _ := i77.trans (hp 2 (by kernel_rfl))
            exact st_field rfl (e77) (by kernel_rfl) (hK _ _ rfl hG (grown_refl _ _))
          · intro hp K hK
            refine g_no rfl ?_
            have e78 : a1.eval (.tmp 78) = _ := i78.trans (hp 3 (by kernel_rfl))
            exact st_load rfl (e78) (ld_cell 29 (by kernel_rfl) ((blk_cell ((hG.2.block _ (blk_lt HGB.out) (fun e => by injection e with e; omega)).trans HGB.out) 1).trans rfl)) (hK _ _ rfl hG (grown_refl _ _))
          · intro hp K hK
            refine g_no rfl ?_
            have e75 : a1.eval (.tmp 75) = _ := i75.trans (hp 0 (by kernel_rfl))
            exact wp_store_mid 26 (.tmp 2) (.tmp 75) rfl w.heap.size 0 #[.int .i64 0, .int .i64 0, .int .i64 0, .slice none 0 0, .slice none 0 0, .int .i64 0] e2 e75 (by have h := blk_there hG.1; exact h) (by kernel_rfl) (by kernel_rfl) (hK undef _ trivial ⟨blk_puts (cs' := #[.int .i64 0, .int .i64 0, .int .i64 0, .slice none 0 0, .slice none 0 0, .int .i64 0]) hG.1 rfl, grown_trans hG.2 (grown_sets _ 0 _)⟩ (grown_sets _ 0 _))
          · intro hp K hK
            refine g_no rfl ?_
            have e79 : a1.eval (.tmp 79) = _ := i79.trans (hp 4 (by kernel_rfl))
            exact st_move (.inr rfl) (e79) (hK _ _ rfl hG (grown_refl _ _))
        intro vs W hG hp a1 ha1
        have q5 : True := hp 5 (by decide)
        have q6 : vs 6 = _ := hp 6 (by decide)
        clear hp
        simp only [fill, Act.put, List.append_eq, List.cons_append, List.nil_append, List.take_succ_cons, List.take_zero, List.setIfInBounds_toArray, List.set_cons_succ, List.set_cons_zero, Nat.reduceAdd, Nat.zero_add, q6] at ha1
        subst ha1
        refine wpList_nil ?_
        clear q6
        have HG := Lib.hid hG
        clear hG
        go_wp2
        refine bodyPost_ret (results_ct rfl _ _ (w.heap.size) 26 #[.int .i64 0, .int .i64 0, .int .i64 0, .slice none 0 0, .slice none 0 0, .int .i64 0] (0, 0) _ rfl HG.out.1 Try.underlying26 rfl (by kernel_rfl)) rfl ?_
        rw [HRN.out]
        exact PQ_err (HS8.out.bel.trans (grown_low HG.out.2 (Nat.le_refl _) HS8.out.bel.size)) HF.out HZ.out rfl
end Go.Proofs.Ytieoklpgnmbpjaa.Gr
