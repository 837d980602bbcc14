/- By; lives. -/
import Derived.Test.YtihecimbhhlhaaaRl9
import Derived.Test.YtihecimbhhlhaaaRsPintlelaw13Nops
namespace Go.Proofs.Ytihecimbhhlhaaa.Rl
open Go.RowKit Dr PRs
open Go.Proofs.YtihecimbhhlhaaaW.PrintWords (Kd Kd.C Kd.R Kd.C_below Kd.C_get Kd.R_below Kd.R_reads Kd.R_reads' Kd.R_types Kd.R_step Kd.R_alloc Kd.R_drew Kd.R_lower add_field)
set_option linter.unusedVariables false
set_option linter.unusedSimpArgs false
set_option maxRecDepth 100000

theorem fa34 (a : Addr) (W : World) : (Instr.fieldAt 34 (.pointer (some a)) 2).run Try.prog W = .ok (.pointer (some (a.add 6))) W := by kernel_rfl
theorem fa34k (a : Addr) (W : World) : (Instr.fieldAt 34 (.pointer (some a)) 0).run Try.prog W = .ok (.pointer (some (a.add 0))) W := by kernel_rfl
theorem ld_fld {W : World} {A : Option Addr} {l : List S34} (h : Kd.C k34 W A l.length l) {i q : Nat} {v : Value} (hi : i < l.length) (hv : (it (l.getD i z34))[q]? = some v) : ∃ ad, A = some ad ∧ W.cell? ((ad.add (i * 7)).add q) = some v := by
  obtain ⟨ad, c, e, _, hK, hc⟩ := Kd.C_get h z34 (i : Int) (by omega) (by omega)
  rw [Int.toNat_natCast] at hK hc
  obtain rfl := k34_open hK
  refine ⟨ad, e, ?_⟩
  rw [Addr.add_add]
  exact hc q v (by simpa using hv)
set_option maxHeartbeats 8000000 in
theorem by_is (A Ab : Option Addr) (c cb : Nat) (l : List S34) (far : Nat → Bool) (i : Nat) (w : World) (hl : l.length ≤ 4000) (hc : l.length ≤ c) (hu : uniq l l.length) (hil : i < l.length) (hs : (lab l l.length (l.getD i z34).f2).isSome = true) (hC : Kd.C k34 w A l.length l) (hB : Kd.C (Kd.int .i64) w Ab (l.length + 1) (begs l far (l.length + 1))) :
    Calls Try.prog 10 #[.slice A l.length c, .slice Ab (l.length + 1) cb, .int .i64 (i : Int)] w fun e w' => e = .returned (.int .i64 (off l far i)) ∧ Below w.heap.size w w' := by
  have HL := Lib.hid hl
  have HC := Lib.hid hC
  have HB := Lib.hid hB
  obtain ⟨ad, hAd, -⟩ := ld_fld hC (q := 6) hil rfl
  subst hAd
  obtain ⟨adb, hAb, -⟩ := ld_beg hB (i := i) (by omega)
  subst hAb
  have hal := at_lt l (l.getD i z34).f2
  have hba := beg_in l far (at_ l (l.getD i z34).f2)
  have hbi := beg_in l far i
  clear hl hC hB
  go_enter Try.func10, Try.ntmps10
  apply wp_seq_k
  intro K1 hK1
  have HK1 := Lib.hid hK1
  clear hK1
  refine wp_listed (R := fun W W' => Below W.heap.size W W') 1 [.val (.int .i64 0)] (fun W => Below w.heap.size w W) (by kernel_rfl) (Below.refl _ _) ?_ ?_
  · intro vs W hG b hb
    clear hb
    refine And.intro ?_ (trivial)
    · intro hp K hK
      refine g_no rfl ?_
      exact st_move (.inr rfl) (eval_const _) (hK _ _ rfl hG (Below.refl _ _))
  intro vs W hG hp b hb
  have q0 : vs 0 = _ := hp 0 (by decide)
  clear hp
  simp only [fill, Act.put, List.append_eq, List.cons_append, List.nil_append, List.take_succ_cons, List.take_zero, List.setIfInBounds_toArray, List.set_cons_succ, List.set_cons_zero, Nat.reduceAdd, Nat.zero_add, q0] at hb
  subst hb
  refine wpList_nil ?_
  clear q0
  refine HK1.out _ _ ?_
  clear HK1
  apply wp_seq_k
  intro K2 hK2
  have HK2 := Lib.hid hK2
  clear hK2
  refine wp_drawn (R := fun W W' => Below W.heap.size W W') 16 [.val (.slice (some adb) (l.length + 1) cb), .val (.slice (some ad) l.length c), .val (.slice (some ad) l.length c), .val (.int .i64 (i : Int)), .val (.pointer (some (ad.add (i * 7)))), .val (.pointer (some ((ad.add (i * 7)).add 6))), .val (.int .i64 (l.getD i z34).f2), .val (.int .i64 ((at_ l (l.getD i z34).f2) : Int)), .val (.pointer (some (adb.add (at_ l (l.getD i z34).f2)))), .val (.int .i64 (beg l far (at_ l (l.getD i z34).f2))), .val (.slice (some adb) (l.length + 1) cb), .val (.int .i64 (i : Int)), .val (.pointer (some (adb.add i))), .val (.int .i64 (beg l far i)), .val (.int .i64 (off l far i)), .val (.int .i64 (off l far i))] (fun W => Below w.heap.size w W) rfl (by kernel_rfl) hG.drew ?_ ?_
  · intro vs W hG b hb
    have e0 : b.eval (.tmp 0) = .slice (some ad) l.length c := eo hb (by kernel_rfl)
    have e1 : b.eval (.tmp 1) = .slice (some adb) (l.length + 1) cb := eo hb (by kernel_rfl)
    have e2 : b.eval (.tmp 2) = .int .i64 (i : Int) := eo hb (by kernel_rfl)
    have i7 := ei (d := 7) hb 0 (by kernel_rfl) rfl rfl (by simp)
    have i8 := ei (d := 8) hb 1 (by kernel_rfl) rfl rfl (by simp)
    have i9 := ei (d := 9) hb 2 (by kernel_rfl) rfl rfl (by simp)
    have i10 := ei (d := 10) hb 3 (by kernel_rfl) rfl rfl (by simp)
    have i11 := ei (d := 11) hb 4 (by kernel_rfl) rfl rfl (by simp)
    have i12 := ei (d := 12) hb 5 (by kernel_rfl) rfl rfl (by simp)
    have i13 := ei (d := 13) hb 6 (by kernel_rfl) rfl rfl (by simp)
    have i14 := ei (d := 14) hb 7 (by kernel_rfl) rfl rfl (by simp)
    have i15 := ei (d := 15) hb 8 (by kernel_rfl) rfl rfl (by simp)
    have i16 := ei (d := 16) hb 9 (by kernel_rfl) rfl rfl (by simp)
    have i17 := ei (d := 17) hb 10 (by kernel_rfl) rfl rfl (by simp)
    have i18 := ei (d := 18) hb 11 (by kernel_rfl) rfl rfl (by simp)
    have i19 := ei (d := 19) hb 12 (by kernel_rfl) rfl rfl (by simp)
    have i20 := ei (d := 20) hb 13 (by kernel_rfl) rfl rfl (by simp)
    have i21 := ei (d := 21) hb 14 (by kernel_rfl) rfl rfl (by simp)
    clear hb
    refine And.intro ?_ (And.intro ?_ (And.intro ?_ (And.intro ?_ (And.intro ?_ (And.intro ?_ (And.intro ?_ (And.intro ?_ (And.intro ?_ (And.intro ?_ (And.intro ?_ (And.intro ?_ (And.intro ?_ (And.intro ?_ (And.intro ?_ (And.intro ?_ (trivial))))))))))))))))
    · intro hp K hK
      refine g_no rfl ?_
      exact st_move (.inl rfl) (e1) (hK _ _ rfl hG (Below.refl _ _))
    · intro hp K hK
      refine g_no rfl ?_
      exact st_move (.inl rfl) (e0) (hK _ _ rfl hG (Below.refl _ _))
    · intro hp K hK
      refine g_no rfl ?_
      exact st_move (.inl rfl) (e0) (hK _ _ rfl hG (Below.refl _ _))
    · intro hp K hK
      refine g_no rfl ?_
      exact st_move (.inl rfl) (e2) (hK _ _ rfl hG (Below.refl _ _))
    · intro hp K hK
      refine g_no rfl ?_
      have e9 : b.eval (.tmp 9) = _ := i9.trans (hp 2 (by kernel_rfl))
      have e10 : b.eval (.tmp 10) = _ := i10.trans (hp 3 (by kernel_rfl))
      exact st_index rfl (e9) (e10) (ix23 hil _) (hK _ _ rfl hG (Below.refl _ _))
    · intro hp K hK
      refine g_no rfl ?_
      have e11 : b.eval (.tmp 11) = _ := i11.trans (hp 4 (by kernel_rfl))
      exact st_field rfl (e11) (fa34 _ _) (hK _ _ rfl hG (Below.refl _ _))
    · intro hp K hK
      refine g_no rfl ?_
      have e12 : b.eval (.tmp 12) = _ := i12.trans (hp 5 (by kernel_rfl))
      exact st_load rfl (e12) (by obtain ⟨a', ha', hl'⟩ := ld_fld (Kd.C_below HC.out hG) (q := 6) hil rfl; rw [Option.some.inj ha']; exact ld_cell 3 (by kernel_rfl) hl') (hK _ _ rfl hG (Below.refl _ _))
    · intro hp K hK
      refine g_no rfl ?_
      have e8 : b.eval (.tmp 8) = _ := i8.trans (hp 1 (by kernel_rfl))
      have e13 : b.eval (.tmp 13) = _ := i13.trans (hp 6 (by kernel_rfl))
      refine st_call rfl (by first | (simp only [List.map_toArray, List.map_cons, List.map_nil, eval_const, e8, e13]; done) | (simp only [List.map_toArray, List.map_cons, List.map_nil, eval_const, e8, e13]; rfl)) (by kernel_rfl) ?_
      refine (pintleref13_Find.calls (2 * l.length + 1) _ c l (l.getD i z34).f2 ((at_ l (l.getD i z34).f2) : Int) _ (Kd.C_below HC.out hG) hc (find_is l _ HL.out hu hs)).mono ?_
      rintro e w' ⟨rfl, hd⟩; have hb' := below_drawn hd
      exact ⟨_, rfl, hK _ _ rfl (below_step hG hb') hb'⟩
    · intro hp K hK
      refine g_no rfl ?_
      have e7 : b.eval (.tmp 7) = _ := i7.trans (hp 0 (by kernel_rfl))
      have e14 : b.eval (.tmp 14) = _ := i14.trans (hp 7 (by kernel_rfl))
      exact st_index rfl (e7) (e14) (ix25n hal _) (hK _ _ rfl hG (Below.refl _ _))
    · intro hp K hK
      refine g_no rfl ?_
      have e15 : b.eval (.tmp 15) = _ := i15.trans (hp 8 (by kernel_rfl))
      exact st_load rfl (e15) (by obtain ⟨a', ha', hl'⟩ := ld_beg (Kd.C_below HB.out hG) hal; rw [Option.some.inj ha']; exact ld_cell 3 (by kernel_rfl) hl') (hK _ _ rfl hG (Below.refl _ _))
    · intro hp K hK
      refine g_no rfl ?_
      exact st_move (.inl rfl) (e1) (hK _ _ rfl hG (Below.refl _ _))
    · intro hp K hK
      refine g_no rfl ?_
      exact st_move (.inl rfl) (e2) (hK _ _ rfl hG (Below.refl _ _))
    · intro hp K hK
      refine g_no rfl ?_
      have e17 : b.eval (.tmp 17) = _ := i17.trans (hp 10 (by kernel_rfl))
      have e18 : b.eval (.tmp 18) = _ := i18.trans (hp 11 (by kernel_rfl))
      exact st_index rfl (e17) (e18) (ix25n (Nat.lt_succ_of_lt hil) _) (hK _ _ rfl hG (Below.refl _ _))
    · intro hp K hK
      refine g_no rfl ?_
      have e19 : b.eval (.tmp 19) = _ := i19.trans (hp 12 (by kernel_rfl))
      exact st_load rfl (e19) (by obtain ⟨a', ha', hl'⟩ := ld_beg (Kd.C_below HB.out hG) (Nat.lt_succ_of_lt hil); rw [Option.some.inj ha']; exact ld_cell 3 (by kernel_rfl) hl') (hK _ _ rfl hG (Below.refl _ _))
    · intro hp K hK
      refine g_no rfl ?_
      have e16 : b.eval (.tmp 16) = _ := i16.trans (hp 9 (by kernel_rfl))
      have e20 : b.eval (.tmp 20) = _ := i20.trans (hp 13 (by kernel_rfl))
      exact st_bin rfl (e16) (e20) (b_sub (by unfold off; exact IntWalk.i64_in _ (by have := HL.out; omega))) (hK _ _ rfl hG (Below.refl _ _))
    · intro hp K hK
      refine g_no rfl ?_
      have e21 : b.eval (.tmp 21) = _ := i21.trans (hp 14 (by kernel_rfl))
      exact st_move (.inr rfl) (e21) (hK _ _ rfl hG (Below.refl _ _))
  intro vs W hG hp b hb
  have q15 : vs 15 = _ := hp 15 (by decide)
  clear hp
  simp only [fill, Act.put, List.append_eq, List.cons_append, List.nil_append, List.take_succ_cons, List.take_zero, List.setIfInBounds_toArray, List.set_cons_succ, List.set_cons_zero, Nat.reduceAdd, Nat.zero_add, q15] at hb
  subst hb
  refine wpList_nil ?_
  clear q15
  refine HK2.out _ _ ?_
  clear HK2
  clear hba hbi hal
  go_wp2
  go_ret
  exact ⟨rfl, hG⟩
abbrev sm (y : S48) : Array Value := #[.int .i64 y.f0, .int .i64 y.f1.f0, .int .i64 y.f1.f1.f0, .int .i64 y.f1.f1.f1, .int .i64 y.f1.f1.f2, .int .i64 y.f1.f1.f3, .int .i32 y.f1.f1.f4, .int .i64 y.f1.f2]
theorem new48 (W : World) : (Instr.alloc 48 true (.tuple #[])).run Try.prog W = .ok (.pointer (some ⟨W.heap.size, 0, none⟩)) (W.alloc (.cells (sm z48) 48)) := by kernel_rfl
def row3 (m : Int) : Array Value := sm ⟨0, lbI⟩ ++ sm ⟨m, npI⟩ ++ sm ⟨0, brI⟩
theorem bs3 (m : Int) (W : World) : (Instr.buildSlice 22 3 #[(0, .agg (sm ⟨0, lbI⟩)), (1, .agg (sm ⟨m, npI⟩)), (2, .agg (sm ⟨0, brI⟩))]).run Try.prog W = .ok (.slice (some ⟨W.heap.size, 0, none⟩) 3 3) (W.alloc (.cells (row3 m) 48)) := by kernel_rfl
theorem C_row3 {W : World} {g m : Nat} (h : W.heap[g]? = some (.cells (row3 (m : Int)) 48 (0, 0))) : Kd.C k48 W (some ⟨g, 0, none⟩) (some3 m).length (some3 m) := by
  refine ⟨rfl, by show 3 ≤ 9223372036854775807; decide, fun _ => ⟨_, rfl, fun j p hp => ?_⟩⟩
  have hj : j < 3 := (List.getElem?_eq_some_iff.1 hp).1
  refine ⟨(sm p).toList, rfl, k48_mk W p, fun i u hu => ?_⟩
  have hi : i < 8 := (List.getElem?_eq_some_iff.1 hu).1
  have e : (Addr.add ⟨g, 0, none⟩ (j * 8 + i)) = ⟨g, j * 8 + i, none⟩ := by rw [Addr.add_mid, Nat.zero_add]
  rw [show k48.sz = 8 from rfl, e, blk_cell h]
  match j, hj with
  | 0, _ =>
    obtain rfl : (⟨0, lbI⟩ : S48) = p := Option.some.inj hp
    match i, hi with
    | 0, _ | 1, _ | 2, _ | 3, _ | 4, _ | 5, _ | 6, _ | 7, _ => (simp [row3, sm] at hu ⊢; exact hu)
  | 1, _ =>
    obtain rfl : (⟨(m : Int), npI⟩ : S48) = p := Option.some.inj hp
    match i, hi with
    | 0, _ | 1, _ | 2, _ | 3, _ | 4, _ | 5, _ | 6, _ | 7, _ => (simp [row3, sm] at hu ⊢; exact hu)
  | 2, _ =>
    obtain rfl : (⟨0, brI⟩ : S48) = p := Option.some.inj hp
    match i, hi with
    | 0, _ | 1, _ | 2, _ | 3, _ | 4, _ | 5, _ | 6, _ | 7, _ => (simp [row3, sm] at hu ⊢; exact hu)
def rowS (l : List S34) (g0 : Nat) : DSpec (fun W W' => Below W.heap.size W W') := ⟨fun v W => ∃ A c, v = .slice A l.length c ∧ l.length ≤ c ∧ Kd.C k34 W A l.length l, fun _ _ _ ⟨A, c, h1, h2, h3⟩ hb => ⟨A, c, h1, h2, Kd.C_below h3 hb⟩⟩
def layP (l : List S34) (far : Nat → Bool) (adb : Addr) (cb gf : Nat) (W : World) : Prop := (l.length + 1 ≤ cb ∧ Kd.C (Kd.int .i64) W (some adb) (l.length + 1) (begs l far (l.length + 1)) ∧ Kd.C Kd.bool W (some ⟨gf, 0, none⟩) l.length (farL far l.length)) ∧ (good l far ∧ FI l far)
theorem layP_below {l : List S34} {far : Nat → Bool} {adb : Addr} {cb gf : Nat} {W W' : World} (h : layP l far adb cb gf W) (hb : Below W.heap.size W W') : layP l far adb cb gf W' := ⟨⟨h.1.1, Kd.C_below h.1.2.1 hb, Kd.C_below h.1.2.2 hb⟩, h.2⟩
def layV (l : List S34) (adb : Addr) (cb gf : Nat) : Value := .tuple #[.slice (some adb) (l.length + 1) cb, .slice (some ⟨gf, 0, none⟩) l.length l.length, .int .i64 0]
def layS (l : List S34) : DSpec (fun W W' => Below W.heap.size W W') := ⟨fun v W => ∃ far adb cb gf, v = layV l adb cb gf ∧ layP l far adb cb gf W, fun _ _ _ ⟨far, adb, cb, gf, h1, h2⟩ hb => ⟨far, adb, cb, gf, h1, layP_below h2 hb⟩⟩
def aS (l : List S34) : DSpec (fun W W' => Below W.heap.size W W') := ⟨fun v W => ∃ adb cb, v = .slice (some adb) (l.length + 1) cb, fun _ _ _ h _ => h⟩
def fS (l : List S34) : DSpec (fun W W' => Below W.heap.size W W') := ⟨fun v W => ∃ far gf, v = .slice (some ⟨gf, 0, none⟩) l.length l.length ∧ Kd.C Kd.bool W (some ⟨gf, 0, none⟩) l.length (farL far l.length) ∧ good l far ∧ FI l far, fun _ _ _ ⟨far, gf, h1, h2, h3⟩ hb => ⟨far, gf, h1, Kd.C_below h2 hb, h3⟩⟩
set_option maxHeartbeats 16000000 in
theorem lives_is (w : World) : Calls Try.prog 9 #[] w fun e w' => e = .returned (.bool true) ∧ Below w.heap.size w w' := by
  go_enter Try.func9, Try.ntmps9
  apply wp_seq_k
  intro K1 hK1
  have HK1 := Lib.hid hK1
  clear hK1
  refine wp_listed (R := fun W W' => Below W.heap.size W W') 1 [.val (.bool false)] (fun W => Below w.heap.size w W) (by kernel_rfl) (Below.refl _ _) ?_ ?_
  · intro vs W hG b hb
    clear hb
    refine And.intro ?_ (trivial)
    · intro hp K hK
      refine g_no rfl ?_
      exact st_move (.inr rfl) (eval_const _) (hK _ _ rfl hG (Below.refl _ _))
  intro vs W hG hp b hb
  have q0 : vs 0 = _ := hp 0 (by decide)
  clear hp
  simp only [fill, Act.put, List.append_eq, List.cons_append, List.nil_append, List.take_succ_cons, List.take_zero, List.setIfInBounds_toArray, List.set_cons_succ, List.set_cons_zero, Nat.reduceAdd, Nat.zero_add, q0] at hb
  subst hb
  refine wpList_nil ?_
  clear q0
  refine HK1.out _ _ ?_
  clear HK1
  apply wp_seq_k
  intro K2 hK2
  have HK2 := Lib.hid hK2
  clear hK2
  refine wp_listed (R := fun W W' => Below W.heap.size W W') 6 [.val (.agg (it lbI)), .val (.agg (sm ⟨0, lbI⟩)), .val (.agg #[.int .i64 36, .int .i64 0, .int .i64 0, .int .i64 0, .int .i32 0]), .val (.agg (it brI)), .val (.agg (sm ⟨0, brI⟩)), newSpec (.cells (sm z48) 48 (0, 0)) (w.heap.size)] (fun W => Below w.heap.size w W) (by kernel_rfl) hG ?_ ?_
  · intro vs W hG b hb
    have i9 := ei (d := 9) hb 0 (by kernel_rfl) rfl rfl (by simp)
    have i11 := ei (d := 11) hb 2 (by kernel_rfl) rfl rfl (by simp)
    have i12 := ei (d := 12) hb 3 (by kernel_rfl) rfl rfl (by simp)
    clear hb
    refine And.intro ?_ (And.intro ?_ (And.intro ?_ (And.intro ?_ (And.intro ?_ (And.intro ?_ (trivial))))))
    · intro hp K hK
      refine g_no rfl ?_
      exact st_build rfl (by first | (simp only [List.map_toArray, List.map_cons, List.map_nil, eval_const]; done) | (simp only [List.map_toArray, List.map_cons, List.map_nil, eval_const]; rfl)) (by kernel_rfl) (hK _ _ rfl hG (Below.refl _ _))
    · intro hp K hK
      refine g_no rfl ?_
      have e9 : b.eval (.tmp 9) = _ := i9.trans (hp 0 (by kernel_rfl))
      exact st_build rfl (by first | (simp only [List.map_toArray, List.map_cons, List.map_nil, eval_const, e9]; done) | (simp only [List.map_toArray, List.map_cons, List.map_nil, eval_const, e9]; rfl)) (by kernel_rfl) (hK _ _ rfl hG (Below.refl _ _))
    · intro hp K hK
      refine g_no rfl ?_
      exact st_build rfl (by first | (simp only [List.map_toArray, List.map_cons, List.map_nil, eval_const]; done) | (simp only [List.map_toArray, List.map_cons, List.map_nil, eval_const]; rfl)) (by kernel_rfl) (hK _ _ rfl hG (Below.refl _ _))
    · intro hp K hK
      refine g_no rfl ?_
      have e11 : b.eval (.tmp 11) = _ := i11.trans (hp 2 (by kernel_rfl))
      exact st_build rfl (by first | (simp only [List.map_toArray, List.map_cons, List.map_nil, eval_const, e11]; done) | (simp only [List.map_toArray, List.map_cons, List.map_nil, eval_const, e11]; rfl)) (by kernel_rfl) (hK _ _ rfl hG (Below.refl _ _))
    · intro hp K hK
      refine g_no rfl ?_
      have e12 : b.eval (.tmp 12) = _ := i12.trans (hp 3 (by kernel_rfl))
      exact st_build rfl (by first | (simp only [List.map_toArray, List.map_cons, List.map_nil, eval_const, e12]; done) | (simp only [List.map_toArray, List.map_cons, List.map_nil, eval_const, e12]; rfl)) (by kernel_rfl) (hK _ _ rfl hG (Below.refl _ _))
    · intro hp K hK
      refine g_no rfl ?_
      exact st_alloc rfl (new48 _) (hK _ _ ⟨_, rfl, blk_new _ _, hG.size⟩ (hG.alloc hG.size _) ((Below.refl _ _).alloc (Nat.le_refl _) _))
  intro vs W hG hp b hb
  have q0 : vs 0 = _ := hp 0 (by decide)
  have q1 : vs 1 = _ := hp 1 (by decide)
  have q2 : vs 2 = _ := hp 2 (by decide)
  have q3 : vs 3 = _ := hp 3 (by decide)
  have q4 : vs 4 = _ := hp 4 (by decide)
  have q5 : ∃ gg, (vs 5) = .pointer (some ⟨gg, 0, none⟩) ∧ W.heap[gg]? = some (.cells (sm z48) 48 (0, 0)) ∧ w.heap.size ≤ gg := hp 5 (by decide)
  clear hp
  simp only [fill, Act.put, List.append_eq, List.cons_append, List.nil_append, List.take_succ_cons, List.take_zero, List.setIfInBounds_toArray, List.set_cons_succ, List.set_cons_zero, Nat.reduceAdd, Nat.zero_add, q0, q1, q2, q3, q4] at hb
  subst hb
  simp only [List.append_eq, List.cons_append, List.nil_append, List.drop_succ_cons, List.drop_zero]
  clear q0 q1 q2 q3 q4
  obtain ⟨g1, hv, A1, hg1⟩ := q5
  rw [hv]
  clear hv
  have HB := Lib.hid hG
  have HA1 := Lib.hid A1
  clear hG A1
  refine wpList_plain rfl fun K' hK' => ?_
  refine st_alloc rfl (new48 _) ?_
  refine hK' _ _ ?_
  have A1 := blk_alloc HA1.out (.cells (sm z48) 48)
  have A2 := blk_new W (.cells (sm z48) 48)
  have hg2 : g1 < W.heap.size := blk_lt HA1.out
  have hws : w.heap.size ≤ W.heap.size := HB.out.size
  have hG : Below w.heap.size w (W.alloc (.cells (sm z48) 48)) := HB.out.alloc HB.out.size _
  generalize W.alloc (.cells (sm z48) 48) = V at *
  generalize W.heap.size = g2 at *
  simp only [Act.put, List.setIfInBounds_toArray, List.set_cons_succ, List.set_cons_zero]
  refine wpList_store_mid rfl 48 (.tmp 1) (.tmp 10) rfl g1 0 (sm ⟨0, lbI⟩) rfl rfl (by have h := blk_there A1; exact h) (by kernel_rfl) (by kernel_rfl) ?_
  have B1 := blk_puts (cs' := sm ⟨0, lbI⟩) A1 rfl
  have A2 := blk_puts_far (l := (sm ⟨0, lbI⟩).toList) (o := 0) A2 (show g2 ≠ g1 by omega)
  have hG := below_sets (sm ⟨0, lbI⟩).toList 0 w V g1 hG hg1
  clear A1
  generalize V.setCells g1 0 (sm ⟨0, lbI⟩).toList = U at A2 B1 hG ⊢
  refine wpList_store_mid rfl 48 (.tmp 2) (.tmp 13) rfl g2 0 (sm ⟨0, brI⟩) rfl rfl (by have h := blk_there A2; exact h) (by kernel_rfl) (by kernel_rfl) ?_
  have C1 := blk_puts_far (l := (sm ⟨0, brI⟩).toList) (o := 0) B1 (show g1 ≠ g2 by omega)
  have C2 := blk_puts (cs' := sm ⟨0, brI⟩) A2 rfl
  have hG := below_sets (sm ⟨0, brI⟩).toList 0 w U g2 hG hws
  clear A2 B1
  generalize U.setCells g2 0 (sm ⟨0, brI⟩).toList = V at hG C1 C2 ⊢
  refine wpList_nil ?_
  simp only [Act.put]
  have hG2 : Below w.heap.size w V ∧ V.heap[g1]? = some (.cells (sm ⟨0, lbI⟩) 48 (0, 0)) ∧ V.heap[g2]? = some (.cells (sm ⟨0, brI⟩) 48 (0, 0)) := ⟨hG, C1, C2⟩
  clear hG C1 C2
  refine HK2.out _ _ ?_
  clear HK2
  apply wp_seq_k
  intro K3 hK3
  have HK3 := Lib.hid hK3
  clear hK3
  refine wp_drawn (R := fun W W' => Below W.heap.size W W') 13 [.val (.agg (sm ⟨0, lbI⟩)), .val (.agg (sm ⟨(1024 : Nat), npI⟩)), .val (.agg (sm ⟨0, brI⟩)), ⟨fun v W => ∃ g, v = .slice (some ⟨g, 0, none⟩) 3 3 ∧ W.heap[g]? = some (.cells (row3 (1024 : Nat)) 48 (0, 0)), fun _ _ _ ⟨g, h1, h2⟩ hb => ⟨g, h1, blk_below h2 hb⟩⟩, rowS (X 1024) w.heap.size, layS (X 1024), layS (X 1024), aS (X 1024), fS (X 1024), .val (.int .i64 0), aS (X 1024), fS (X 1024), .val (.int .i64 0)] (fun W => Below w.heap.size w W ∧ W.heap[g1]? = some (.cells (sm ⟨0, lbI⟩) 48 (0, 0)) ∧ W.heap[g2]? = some (.cells (sm ⟨0, brI⟩) 48 (0, 0))) rfl (by kernel_rfl) ⟨hG2.1.drew, hG2.2⟩ ?_ ?_
  · intro vs W hG b hb
    have e1 : b.eval (.tmp 1) = .pointer (some ⟨g1, 0, none⟩) := eo hb (by kernel_rfl)
    have e2 : b.eval (.tmp 2) = .pointer (some ⟨g2, 0, none⟩) := eo hb (by kernel_rfl)
    have i14 := ei (d := 14) hb 6 (by kernel_rfl) rfl rfl (by simp)
    have i15 := ei (d := 15) hb 0 (by kernel_rfl) rfl rfl (by simp)
    have i16 := ei (d := 16) hb 1 (by kernel_rfl) rfl rfl (by simp)
    have i17 := ei (d := 17) hb 2 (by kernel_rfl) rfl rfl (by simp)
    have i18 := ei (d := 18) hb 3 (by kernel_rfl) rfl rfl (by simp)
    have i19 := ei (d := 19) hb 4 (by kernel_rfl) rfl rfl (by simp)
    have i20 := ei (d := 20) hb 5 (by kernel_rfl) rfl rfl (by simp)
    have i21 := ei (d := 21) hb 7 (by kernel_rfl) rfl rfl (by simp)
    have i22 := ei (d := 22) hb 8 (by kernel_rfl) rfl rfl (by simp)
    have i23 := ei (d := 23) hb 9 (by kernel_rfl) rfl rfl (by simp)
    clear hb
    refine And.intro ?_ (And.intro ?_ (And.intro ?_ (And.intro ?_ (And.intro ?_ (And.intro ?_ (And.intro ?_ (And.intro ?_ (And.intro ?_ (And.intro ?_ (And.intro ?_ (And.intro ?_ (And.intro ?_ (trivial)))))))))))))
    · intro hp K hK
      refine g_no rfl ?_
      exact st_load rfl (e1) (ld_all 48 _ hG.2.1 Try.underlying48 rfl (by kernel_rfl)) (hK _ _ rfl hG (Below.refl _ _))
    · intro hp K hK
      refine g_no rfl ?_
      refine st_call rfl (by first | (simp only [List.map_toArray, List.map_cons, List.map_nil, eval_const]; done) | (simp only [List.map_toArray, List.map_cons, List.map_nil, eval_const]; rfl)) (by kernel_rfl) ?_
      refine (pintlelaw13_nops.calls 1024 _ _ _ _ _ _ _ _ _ rfl).mono ?_
      rintro e w' ⟨rfl, hb'⟩
      exact ⟨_, rfl, hK _ _ rfl ⟨below_step hG.1 hb', blk_below hG.2.1 hb', blk_below hG.2.2 hb'⟩ hb'⟩
    · intro hp K hK
      refine g_no rfl ?_
      exact st_load rfl (e2) (ld_all 48 _ hG.2.2 Try.underlying48 rfl (by kernel_rfl)) (hK _ _ rfl hG (Below.refl _ _))
    · intro hp K hK
      refine g_no rfl ?_
      have e15 : b.eval (.tmp 15) = _ := i15.trans (hp 0 (by kernel_rfl))
      have e16 : b.eval (.tmp 16) = _ := i16.trans (hp 1 (by kernel_rfl))
      have e17 : b.eval (.tmp 17) = _ := i17.trans (hp 2 (by kernel_rfl))
      exact st_buildSlice rfl (by first | (simp only [List.map_toArray, List.map_cons, List.map_nil, eval_const, e15, e16, e17]; done) | (simp only [List.map_toArray, List.map_cons, List.map_nil, eval_const, e15, e16, e17]; rfl)) (bs3 (1024 : Nat) _) (hK _ _ ⟨_, rfl, blk_new _ _⟩ ⟨hG.1.alloc hG.1.size _, blk_alloc hG.2.1 _, blk_alloc hG.2.2 _⟩ ((Below.refl _ _).alloc (Nat.le_refl _) _))
    · intro hp K hK
      refine g_no rfl ?_
      have q3 : ∃ g, (vs 3) = .slice (some ⟨g, 0, none⟩) 3 3 ∧ W.heap[g]? = some (.cells (row3 (1024 : Nat)) 48 (0, 0)) := hp 3 (by kernel_rfl)
      obtain ⟨g, hv, hg⟩ := q3
      have e18 := i18.trans hv
      refine st_call rfl (by first | (simp only [List.map_toArray, List.map_cons, List.map_nil, eval_const, e18]; done) | (simp only [List.map_toArray, List.map_cons, List.map_nil, eval_const, e18]; rfl)) (by kernel_rfl) ?_
      refine (pintlelaw13_Items.calls (1024 + 16 + 6) _ 3 (some3 1024) (X 1024) _ (C_row3 hg) (by decide) (items_X 1024 (by decide) (by decide))).mono ?_
      rintro e w' ⟨v, rfl, hR, hb'⟩; obtain ⟨A, c, rfl, hc, hC⟩ := Kd.R_reads hR
      exact ⟨_, rfl, hK _ _ ⟨_, _, rfl, hc, hC⟩ ⟨below_step hG.1 hb', blk_below hG.2.1 hb', blk_below hG.2.2 hb'⟩ hb'⟩
    · intro hp K hK
      refine g_no rfl ?_
      have q4 : ∃ A c, (vs 4) = .slice A (X 1024).length c ∧ (X 1024).length ≤ c ∧ Kd.C k34 W A (X 1024).length (X 1024) := hp 4 (by kernel_rfl)
      obtain ⟨A, c, hv, hc, hC⟩ := q4
      have e19 := i19.trans hv
      refine st_call rfl (by first | (simp only [List.map_toArray, List.map_cons, List.map_nil, eval_const, e19]; done) | (simp only [List.map_toArray, List.map_cons, List.map_nil, eval_const, e19]; rfl)) (by kernel_rfl) ?_
      refine (layout_good A c (X 1024) _ (by rw [X_len]; decide) (fun x hx => (X_okx 1024 x hx).1) (fun x hx => (X_okx 1024 x hx).2) hC (X_ok 1024)).mono ?_
      rintro e w' ⟨far, adb, cb, gf, rfl, h1, h2, hb'⟩; have hP : layP (X 1024) far adb cb gf w' := ⟨h1, h2⟩
      exact ⟨_, rfl, hK _ _ ⟨_, _, _, _, rfl, hP⟩ ⟨below_step hG.1 hb', blk_below hG.2.1 hb', blk_below hG.2.2 hb'⟩ hb'⟩
    · intro hp K hK
      refine g_no rfl ?_
      have q5 : ∃ far adb cb gf, (vs 5) = layV (X 1024) adb cb gf ∧ layP (X 1024) far adb cb gf W := hp 5 (by kernel_rfl)
      obtain ⟨far, adb, cb, gf, hv, hP⟩ := q5
      have e20 := i20.trans hv
      exact st_move (.inl rfl) (e20) (hK _ _ ⟨_, _, _, _, rfl, hP⟩ hG (Below.refl _ _))
    · intro hp K hK
      refine g_no rfl ?_
      have q6 : ∃ far adb cb gf, (vs 6) = layV (X 1024) adb cb gf ∧ layP (X 1024) far adb cb gf W := hp 6 (by kernel_rfl)
      obtain ⟨far, adb, cb, gf, hv, hP⟩ := q6
      have e14 := i14.trans hv
      exact st_extract rfl (e14) (by kernel_rfl) (hK _ _ ⟨adb, cb, rfl⟩ hG (Below.refl _ _))
    · intro hp K hK
      refine g_no rfl ?_
      have q6 : ∃ far adb cb gf, (vs 6) = layV (X 1024) adb cb gf ∧ layP (X 1024) far adb cb gf W := hp 6 (by kernel_rfl)
      obtain ⟨far, adb, cb, gf, hv, hP⟩ := q6
      have e14 := i14.trans hv
      exact st_extract rfl (e14) (by kernel_rfl) (hK _ _ ⟨far, gf, rfl, hP.1.2.2, hP.2⟩ hG (Below.refl _ _))
    · intro hp K hK
      refine g_no rfl ?_
      have q6 : ∃ far adb cb gf, (vs 6) = layV (X 1024) adb cb gf ∧ layP (X 1024) far adb cb gf W := hp 6 (by kernel_rfl)
      obtain ⟨far, adb, cb, gf, hv, hP⟩ := q6
      have e14 := i14.trans hv
      exact st_extract rfl (e14) (by kernel_rfl) (hK _ _ rfl hG (Below.refl _ _))
    · intro hp K hK
      refine g_no rfl ?_
      have q7 : ∃ adb cb, (vs 7) = .slice (some adb) ((X 1024).length + 1) cb := hp 7 (by kernel_rfl)
      obtain ⟨adb, cb, hv⟩ := q7
      have e21 := i21.trans hv
      exact st_move (.inr rfl) (e21) (hK _ _ ⟨_, _, rfl⟩ hG (Below.refl _ _))
    · intro hp K hK
      refine g_no rfl ?_
      have q8 : ∃ far gf, (vs 8) = .slice (some ⟨gf, 0, none⟩) (X 1024).length (X 1024).length ∧ Kd.C Kd.bool W (some ⟨gf, 0, none⟩) (X 1024).length (farL far (X 1024).length) ∧ good (X 1024) far ∧ FI (X 1024) far := hp 8 (by kernel_rfl)
      obtain ⟨far, gf, hv, hF⟩ := q8
      have e22 := i22.trans hv
      exact st_move (.inr rfl) (e22) (hK _ _ ⟨_, _, rfl, hF⟩ hG (Below.refl _ _))
    · intro hp K hK
      refine g_no rfl ?_
      have e23 : b.eval (.tmp 23) = _ := i23.trans (hp 9 (by kernel_rfl))
      exact st_move (.inr rfl) (e23) (hK _ _ rfl hG (Below.refl _ _))
  intro vs W hG hp b hb
  have q3 : ∃ g, (vs 3) = .slice (some ⟨g, 0, none⟩) 3 3 ∧ W.heap[g]? = some (.cells (row3 (1024 : Nat)) 48 (0, 0)) := hp 3 (by decide)
  have q4 : ∃ A c, (vs 4) = .slice A (X 1024).length c ∧ (X 1024).length ≤ c ∧ Kd.C k34 W A (X 1024).length (X 1024) := hp 4 (by decide)
  have q5 : ∃ far adb cb gf, (vs 5) = layV (X 1024) adb cb gf ∧ layP (X 1024) far adb cb gf W := hp 5 (by decide)
  have q6 : ∃ far adb cb gf, (vs 6) = layV (X 1024) adb cb gf ∧ layP (X 1024) far adb cb gf W := hp 6 (by decide)
  have q7 : ∃ adb cb, (vs 7) = .slice (some adb) ((X 1024).length + 1) cb := hp 7 (by decide)
  have q8 : ∃ far gf, (vs 8) = .slice (some ⟨gf, 0, none⟩) (X 1024).length (X 1024).length ∧ Kd.C Kd.bool W (some ⟨gf, 0, none⟩) (X 1024).length (farL far (X 1024).length) ∧ good (X 1024) far ∧ FI (X 1024) far := hp 8 (by decide)
  have q10 : ∃ adb cb, (vs 10) = .slice (some adb) ((X 1024).length + 1) cb := hp 10 (by decide)
  have q11 : ∃ far gf, (vs 11) = .slice (some ⟨gf, 0, none⟩) (X 1024).length (X 1024).length ∧ Kd.C Kd.bool W (some ⟨gf, 0, none⟩) (X 1024).length (farL far (X 1024).length) ∧ good (X 1024) far ∧ FI (X 1024) far := hp 11 (by decide)
  have q12 : vs 12 = _ := hp 12 (by decide)
  clear hp
  simp only [fill, Act.put, List.append_eq, List.cons_append, List.nil_append, List.take_succ_cons, List.take_zero, List.setIfInBounds_toArray, List.set_cons_succ, List.set_cons_zero, Nat.reduceAdd, Nat.zero_add, q12] at hb
  subst hb
  refine wpList_nil ?_
  clear q12
  clear q3 q4 q5 q6 q7 q8
  obtain ⟨adb1024, cb1024, hv⟩ := q10
  obtain ⟨far1024, gf1024, hv2, hF1024⟩ := q11
  rw [hv, hv2]
  clear hv hv2
  have hq1 := far_near hF1024.2.2
  have hGG := And.intro hG hF1024.1
  clear hG hG2 hF1024
  refine HK3.out _ _ ?_
  clear HK3
  apply wp_seq_k
  intro K4 hK4
  have HK4 := Lib.hid hK4
  clear hK4
  refine wp_drawn (R := fun W W' => Below W.heap.size W W') 13 [.val (.agg (sm ⟨0, lbI⟩)), .val (.agg (sm ⟨(1025 : Nat), npI⟩)), .val (.agg (sm ⟨0, brI⟩)), ⟨fun v W => ∃ g, v = .slice (some ⟨g, 0, none⟩) 3 3 ∧ W.heap[g]? = some (.cells (row3 (1025 : Nat)) 48 (0, 0)), fun _ _ _ ⟨g, h1, h2⟩ hb => ⟨g, h1, blk_below h2 hb⟩⟩, rowS (X 1025) w.heap.size, layS (X 1025), layS (X 1025), aS (X 1025), fS (X 1025), .val (.int .i64 0), aS (X 1025), fS (X 1025), .val (.int .i64 0)] (fun W => (Below w.heap.size w W ∧ W.heap[g1]? = some (.cells (sm ⟨0, lbI⟩) 48 (0, 0)) ∧ W.heap[g2]? = some (.cells (sm ⟨0, brI⟩) 48 (0, 0))) ∧ Kd.C Kd.bool W (some ⟨gf1024, 0, none⟩) (X 1024).length (farL far1024 (X 1024).length)) rfl (by kernel_rfl) ⟨⟨hGG.1.1.drew, hGG.1.2⟩, Kd.C_below hGG.2 (Below.refl _ _).drew⟩ ?_ ?_
  · intro vs W hG b hb
    have e1 : b.eval (.tmp 1) = .pointer (some ⟨g1, 0, none⟩) := eo hb (by kernel_rfl)
    have e2 : b.eval (.tmp 2) = .pointer (some ⟨g2, 0, none⟩) := eo hb (by kernel_rfl)
    have i24 := ei (d := 24) hb 6 (by kernel_rfl) rfl rfl (by simp)
    have i25 := ei (d := 25) hb 0 (by kernel_rfl) rfl rfl (by simp)
    have i26 := ei (d := 26) hb 1 (by kernel_rfl) rfl rfl (by simp)
    have i27 := ei (d := 27) hb 2 (by kernel_rfl) rfl rfl (by simp)
    have i28 := ei (d := 28) hb 3 (by kernel_rfl) rfl rfl (by simp)
    have i29 := ei (d := 29) hb 4 (by kernel_rfl) rfl rfl (by simp)
    have i30 := ei (d := 30) hb 5 (by kernel_rfl) rfl rfl (by simp)
    have i31 := ei (d := 31) hb 7 (by kernel_rfl) rfl rfl (by simp)
    have i32 := ei (d := 32) hb 8 (by kernel_rfl) rfl rfl (by simp)
    have i33 := ei (d := 33) hb 9 (by kernel_rfl) rfl rfl (by simp)
    clear hb
    refine And.intro ?_ (And.intro ?_ (And.intro ?_ (And.intro ?_ (And.intro ?_ (And.intro ?_ (And.intro ?_ (And.intro ?_ (And.intro ?_ (And.intro ?_ (And.intro ?_ (And.intro ?_ (And.intro ?_ (trivial)))))))))))))
    · intro hp K hK
      refine g_no rfl ?_
      exact st_load rfl (e1) (ld_all 48 _ hG.1.2.1 Try.underlying48 rfl (by kernel_rfl)) (hK _ _ rfl hG (Below.refl _ _))
    · intro hp K hK
      refine g_no rfl ?_
      refine st_call rfl (by first | (simp only [List.map_toArray, List.map_cons, List.map_nil, eval_const]; done) | (simp only [List.map_toArray, List.map_cons, List.map_nil, eval_const]; rfl)) (by kernel_rfl) ?_
      refine (pintlelaw13_nops.calls 1025 _ _ _ _ _ _ _ _ _ rfl).mono ?_
      rintro e w' ⟨rfl, hb'⟩
      exact ⟨_, rfl, hK _ _ rfl ⟨⟨below_step hG.1.1 hb', blk_below hG.1.2.1 hb', blk_below hG.1.2.2 hb'⟩, Kd.C_below hG.2 hb'⟩ hb'⟩
    · intro hp K hK
      refine g_no rfl ?_
      exact st_load rfl (e2) (ld_all 48 _ hG.1.2.2 Try.underlying48 rfl (by kernel_rfl)) (hK _ _ rfl hG (Below.refl _ _))
    · intro hp K hK
      refine g_no rfl ?_
      have e25 : b.eval (.tmp 25) = _ := i25.trans (hp 0 (by kernel_rfl))
      have e26 : b.eval (.tmp 26) = _ := i26.trans (hp 1 (by kernel_rfl))
      have e27 : b.eval (.tmp 27) = _ := i27.trans (hp 2 (by kernel_rfl))
      exact st_buildSlice rfl (by first | (simp only [List.map_toArray, List.map_cons, List.map_nil, eval_const, e25, e26, e27]; done) | (simp only [List.map_toArray, List.map_cons, List.map_nil, eval_const, e25, e26, e27]; rfl)) (bs3 (1025 : Nat) _) (hK _ _ ⟨_, rfl, blk_new _ _⟩ ⟨⟨hG.1.1.alloc hG.1.1.size _, blk_alloc hG.1.2.1 _, blk_alloc hG.1.2.2 _⟩, Kd.C_below hG.2 ((Below.refl _ _).alloc (Nat.le_refl _) _)⟩ ((Below.refl _ _).alloc (Nat.le_refl _) _))
    · intro hp K hK
      refine g_no rfl ?_
      have q3 : ∃ g, (vs 3) = .slice (some ⟨g, 0, none⟩) 3 3 ∧ W.heap[g]? = some (.cells (row3 (1025 : Nat)) 48 (0, 0)) := hp 3 (by kernel_rfl)
      obtain ⟨g, hv, hg⟩ := q3
      have e28 := i28.trans hv
      refine st_call rfl (by first | (simp only [List.map_toArray, List.map_cons, List.map_nil, eval_const, e28]; done) | (simp only [List.map_toArray, List.map_cons, List.map_nil, eval_const, e28]; rfl)) (by kernel_rfl) ?_
      refine (pintlelaw13_Items.calls (1025 + 16 + 6) _ 3 (some3 1025) (X 1025) _ (C_row3 hg) (by decide) (items_X 1025 (by decide) (by decide))).mono ?_
      rintro e w' ⟨v, rfl, hR, hb'⟩; obtain ⟨A, c, rfl, hc, hC⟩ := Kd.R_reads hR
      exact ⟨_, rfl, hK _ _ ⟨_, _, rfl, hc, hC⟩ ⟨⟨below_step hG.1.1 hb', blk_below hG.1.2.1 hb', blk_below hG.1.2.2 hb'⟩, Kd.C_below hG.2 hb'⟩ hb'⟩
    · intro hp K hK
      refine g_no rfl ?_
      have q4 : ∃ A c, (vs 4) = .slice A (X 1025).length c ∧ (X 1025).length ≤ c ∧ Kd.C k34 W A (X 1025).length (X 1025) := hp 4 (by kernel_rfl)
      obtain ⟨A, c, hv, hc, hC⟩ := q4
      have e29 := i29.trans hv
      refine st_call rfl (by first | (simp only [List.map_toArray, List.map_cons, List.map_nil, eval_const, e29]; done) | (simp only [List.map_toArray, List.map_cons, List.map_nil, eval_const, e29]; rfl)) (by kernel_rfl) ?_
      refine (layout_good A c (X 1025) _ (by rw [X_len]; decide) (fun x hx => (X_okx 1025 x hx).1) (fun x hx => (X_okx 1025 x hx).2) hC (X_ok 1025)).mono ?_
      rintro e w' ⟨far, adb, cb, gf, rfl, h1, h2, hb'⟩; have hP : layP (X 1025) far adb cb gf w' := ⟨h1, h2⟩
      exact ⟨_, rfl, hK _ _ ⟨_, _, _, _, rfl, hP⟩ ⟨⟨below_step hG.1.1 hb', blk_below hG.1.2.1 hb', blk_below hG.1.2.2 hb'⟩, Kd.C_below hG.2 hb'⟩ hb'⟩
    · intro hp K hK
      refine g_no rfl ?_
      have q5 : ∃ far adb cb gf, (vs 5) = layV (X 1025) adb cb gf ∧ layP (X 1025) far adb cb gf W := hp 5 (by kernel_rfl)
      obtain ⟨far, adb, cb, gf, hv, hP⟩ := q5
      have e30 := i30.trans hv
      exact st_move (.inl rfl) (e30) (hK _ _ ⟨_, _, _, _, rfl, hP⟩ hG (Below.refl _ _))
    · intro hp K hK
      refine g_no rfl ?_
      have q6 : ∃ far adb cb gf, (vs 6) = layV (X 1025) adb cb gf ∧ layP (X 1025) far adb cb gf W := hp 6 (by kernel_rfl)
      obtain ⟨far, adb, cb, gf, hv, hP⟩ := q6
      have e24 := i24.trans hv
      exact st_extract rfl (e24) (by kernel_rfl) (hK _ _ ⟨adb, cb, rfl⟩ hG (Below.refl _ _))
    · intro hp K hK
      refine g_no rfl ?_
      have q6 : ∃ far adb cb gf, (vs 6) = layV (X 1025) adb cb gf ∧ layP (X 1025) far adb cb gf W := hp 6 (by kernel_rfl)
      obtain ⟨far, adb, cb, gf, hv, hP⟩ := q6
      have e24 := i24.trans hv
      exact st_extract rfl (e24) (by kernel_rfl) (hK _ _ ⟨far, gf, rfl, hP.1.2.2, hP.2⟩ hG (Below.refl _ _))
    · intro hp K hK
      refine g_no rfl ?_
      have q6 : ∃ far adb cb gf, (vs 6) = layV (X 1025) adb cb gf ∧ layP (X 1025) far adb cb gf W := hp 6 (by kernel_rfl)
      obtain ⟨far, adb, cb, gf, hv, hP⟩ := q6
      have e24 := i24.trans hv
      exact st_extract rfl (e24) (by kernel_rfl) (hK _ _ rfl hG (Below.refl _ _))
    · intro hp K hK
      refine g_no rfl ?_
      have q7 : ∃ adb cb, (vs 7) = .slice (some adb) ((X 1025).length + 1) cb := hp 7 (by kernel_rfl)
      obtain ⟨adb, cb, hv⟩ := q7
      have e31 := i31.trans hv
      exact st_move (.inr rfl) (e31) (hK _ _ ⟨_, _, rfl⟩ hG (Below.refl _ _))
    · intro hp K hK
      refine g_no rfl ?_
      have q8 : ∃ far gf, (vs 8) = .slice (some ⟨gf, 0, none⟩) (X 1025).length (X 1025).length ∧ Kd.C Kd.bool W (some ⟨gf, 0, none⟩) (X 1025).length (farL far (X 1025).length) ∧ good (X 1025) far ∧ FI (X 1025) far := hp 8 (by kernel_rfl)
      obtain ⟨far, gf, hv, hF⟩ := q8
      have e32 := i32.trans hv
      exact st_move (.inr rfl) (e32) (hK _ _ ⟨_, _, rfl, hF⟩ hG (Below.refl _ _))
    · intro hp K hK
      refine g_no rfl ?_
      have e33 : b.eval (.tmp 33) = _ := i33.trans (hp 9 (by kernel_rfl))
      exact st_move (.inr rfl) (e33) (hK _ _ rfl hG (Below.refl _ _))
  intro vs W hG hp b hb
  have q3 : ∃ g, (vs 3) = .slice (some ⟨g, 0, none⟩) 3 3 ∧ W.heap[g]? = some (.cells (row3 (1025 : Nat)) 48 (0, 0)) := hp 3 (by decide)
  have q4 : ∃ A c, (vs 4) = .slice A (X 1025).length c ∧ (X 1025).length ≤ c ∧ Kd.C k34 W A (X 1025).length (X 1025) := hp 4 (by decide)
  have q5 : ∃ far adb cb gf, (vs 5) = layV (X 1025) adb cb gf ∧ layP (X 1025) far adb cb gf W := hp 5 (by decide)
  have q6 : ∃ far adb cb gf, (vs 6) = layV (X 1025) adb cb gf ∧ layP (X 1025) far adb cb gf W := hp 6 (by decide)
  have q7 : ∃ adb cb, (vs 7) = .slice (some adb) ((X 1025).length + 1) cb := hp 7 (by decide)
  have q8 : ∃ far gf, (vs 8) = .slice (some ⟨gf, 0, none⟩) (X 1025).length (X 1025).length ∧ Kd.C Kd.bool W (some ⟨gf, 0, none⟩) (X 1025).length (farL far (X 1025).length) ∧ good (X 1025) far ∧ FI (X 1025) far := hp 8 (by decide)
  have q10 : ∃ adb cb, (vs 10) = .slice (some adb) ((X 1025).length + 1) cb := hp 10 (by decide)
  have q11 : ∃ far gf, (vs 11) = .slice (some ⟨gf, 0, none⟩) (X 1025).length (X 1025).length ∧ Kd.C Kd.bool W (some ⟨gf, 0, none⟩) (X 1025).length (farL far (X 1025).length) ∧ good (X 1025) far ∧ FI (X 1025) far := hp 11 (by decide)
  have q12 : vs 12 = _ := hp 12 (by decide)
  clear hp
  simp only [fill, Act.put, List.append_eq, List.cons_append, List.nil_append, List.take_succ_cons, List.take_zero, List.setIfInBounds_toArray, List.set_cons_succ, List.set_cons_zero, Nat.reduceAdd, Nat.zero_add, q12] at hb
  subst hb
  refine wpList_nil ?_
  clear q12
  clear q3 q4 q5 q6 q7 q8
  obtain ⟨adb1025, cb1025, hv⟩ := q10
  obtain ⟨far1025, gf1025, hv2, hF1025⟩ := q11
  rw [hv, hv2]
  clear hv hv2
  have hq2 := far_far hF1025.2.2 hF1025.2.1
  replace hG := And.intro hG.1.1 (And.intro hG.2 hF1025.1)
  clear hGG hF1025
  refine HK4.out _ _ ?_
  clear HK4
  apply wp_seq_k
  intro K5 hK5
  have HK5 := Lib.hid hK5
  clear hK5
  have hX1 := X_len 1024
  have hX2 := X_len 1025
  refine wp_listed (R := fun W W' => Below W.heap.size W W') 33 [.val (.slice (some adb1024) ((X 1024).length + 1) cb1024), .val (.int .i64 (((X 1024).length + 1 : Nat) : Int)), .val (.bool ((((X 1024).length + 1 : Nat) : Int) == 1027)), .val (.bool ((((X 1024).length + 1 : Nat) : Int) == 1027)), .val ((bif (((((X 1024).length + 1 : Nat) : Int) == 1027) == true) then (.slice (some ⟨gf1024, 0, none⟩) (X 1024).length (X 1024).length) else undef)), .val ((bif (((((X 1024).length + 1 : Nat) : Int) == 1027) == true) then (.int .i64 (((X 1024).length : Nat) : Int)) else undef)), .val ((bif (((((X 1024).length + 1 : Nat) : Int) == 1027) == true) then (.bool ((((X 1024).length : Nat) : Int) == 1026)) else undef)), .val (.bool (((((X 1024).length + 1 : Nat) : Int) == 1027) && ((((X 1024).length : Nat) : Int) == 1026))), .val (.bool (((((X 1024).length + 1 : Nat) : Int) == 1027) && ((((X 1024).length : Nat) : Int) == 1026))), .val ((bif ((((((X 1024).length + 1 : Nat) : Int) == 1027) && ((((X 1024).length : Nat) : Int) == 1026)) == true) then (.slice (some ⟨gf1025, 0, none⟩) (X 1025).length (X 1025).length) else undef)), .val ((bif ((((((X 1024).length + 1 : Nat) : Int) == 1027) && ((((X 1024).length : Nat) : Int) == 1026)) == true) then (.int .i64 (((X 1025).length : Nat) : Int)) else undef)), .val ((bif ((((((X 1024).length + 1 : Nat) : Int) == 1027) && ((((X 1024).length : Nat) : Int) == 1026)) == true) then (.bool ((((X 1025).length : Nat) : Int) == 1027)) else undef)), .val (.bool ((((((X 1024).length + 1 : Nat) : Int) == 1027) && ((((X 1024).length : Nat) : Int) == 1026)) && ((((X 1025).length : Nat) : Int) == 1027))), .val (.bool ((((((X 1024).length + 1 : Nat) : Int) == 1027) && ((((X 1024).length : Nat) : Int) == 1026)) && ((((X 1025).length : Nat) : Int) == 1027))), .val ((bif (((((((X 1024).length + 1 : Nat) : Int) == 1027) && ((((X 1024).length : Nat) : Int) == 1026)) && ((((X 1025).length : Nat) : Int) == 1027)) == true) then (.slice (some ⟨gf1024, 0, none⟩) (X 1024).length (X 1024).length) else undef)), .val ((bif (((((((X 1024).length + 1 : Nat) : Int) == 1027) && ((((X 1024).length : Nat) : Int) == 1026)) && ((((X 1025).length : Nat) : Int) == 1027)) == true) then (.pointer (some ⟨gf1024, 0 + 1025, none⟩)) else undef)), .val ((bif (((((((X 1024).length + 1 : Nat) : Int) == 1027) && ((((X 1024).length : Nat) : Int) == 1026)) && ((((X 1025).length : Nat) : Int) == 1027)) == true) then (.bool (far1024 1025)) else undef)), .val ((bif (((((((X 1024).length + 1 : Nat) : Int) == 1027) && ((((X 1024).length : Nat) : Int) == 1026)) && ((((X 1025).length : Nat) : Int) == 1027)) == true) then (.bool (!(far1024 1025))) else undef)), .val (.bool (((((((X 1024).length + 1 : Nat) : Int) == 1027) && ((((X 1024).length : Nat) : Int) == 1026)) && ((((X 1025).length : Nat) : Int) == 1027)) && (!(far1024 1025)))), .val (.bool (((((((X 1024).length + 1 : Nat) : Int) == 1027) && ((((X 1024).length : Nat) : Int) == 1026)) && ((((X 1025).length : Nat) : Int) == 1027)) && (!(far1024 1025)))), .val ((bif ((((((((X 1024).length + 1 : Nat) : Int) == 1027) && ((((X 1024).length : Nat) : Int) == 1026)) && ((((X 1025).length : Nat) : Int) == 1027)) && (!(far1024 1025))) == true) then (.slice (some ⟨gf1025, 0, none⟩) (X 1025).length (X 1025).length) else undef)), .val ((bif ((((((((X 1024).length + 1 : Nat) : Int) == 1027) && ((((X 1024).length : Nat) : Int) == 1026)) && ((((X 1025).length : Nat) : Int) == 1027)) && (!(far1024 1025))) == true) then (.pointer (some ⟨gf1025, 0 + 1026, none⟩)) else undef)), .val ((bif ((((((((X 1024).length + 1 : Nat) : Int) == 1027) && ((((X 1024).length : Nat) : Int) == 1026)) && ((((X 1025).length : Nat) : Int) == 1027)) && (!(far1024 1025))) == true) then (.bool (far1025 1026)) else undef)), .val (.bool ((((((((X 1024).length + 1 : Nat) : Int) == 1027) && ((((X 1024).length : Nat) : Int) == 1026)) && ((((X 1025).length : Nat) : Int) == 1027)) && (!(far1024 1025))) && (far1025 1026))), .val (.bool ((((((((X 1024).length + 1 : Nat) : Int) == 1027) && ((((X 1024).length : Nat) : Int) == 1026)) && ((((X 1025).length : Nat) : Int) == 1027)) && (!(far1024 1025))) && (far1025 1026))), .val ((bif (((((((((X 1024).length + 1 : Nat) : Int) == 1027) && ((((X 1024).length : Nat) : Int) == 1026)) && ((((X 1025).length : Nat) : Int) == 1027)) && (!(far1024 1025))) && (far1025 1026)) == true) then (.int .i64 0) else undef)), .val ((bif (((((((((X 1024).length + 1 : Nat) : Int) == 1027) && ((((X 1024).length : Nat) : Int) == 1026)) && ((((X 1025).length : Nat) : Int) == 1027)) && (!(far1024 1025))) && (far1025 1026)) == true) then (.bool (0 == 0)) else undef)), .val (.bool (((((((((X 1024).length + 1 : Nat) : Int) == 1027) && ((((X 1024).length : Nat) : Int) == 1026)) && ((((X 1025).length : Nat) : Int) == 1027)) && (!(far1024 1025))) && (far1025 1026)) && (0 == 0))), .val (.bool (((((((((X 1024).length + 1 : Nat) : Int) == 1027) && ((((X 1024).length : Nat) : Int) == 1026)) && ((((X 1025).length : Nat) : Int) == 1027)) && (!(far1024 1025))) && (far1025 1026)) && (0 == 0))), .val ((bif ((((((((((X 1024).length + 1 : Nat) : Int) == 1027) && ((((X 1024).length : Nat) : Int) == 1026)) && ((((X 1025).length : Nat) : Int) == 1027)) && (!(far1024 1025))) && (far1025 1026)) && (0 == 0)) == true) then (.int .i64 0) else undef)), .val ((bif ((((((((((X 1024).length + 1 : Nat) : Int) == 1027) && ((((X 1024).length : Nat) : Int) == 1026)) && ((((X 1025).length : Nat) : Int) == 1027)) && (!(far1024 1025))) && (far1025 1026)) && (0 == 0)) == true) then (.bool (0 == 0)) else undef)), .val (.bool ((((((((((X 1024).length + 1 : Nat) : Int) == 1027) && ((((X 1024).length : Nat) : Int) == 1026)) && ((((X 1025).length : Nat) : Int) == 1027)) && (!(far1024 1025))) && (far1025 1026)) && (0 == 0)) && (0 == 0))), .val (.bool ((((((((((X 1024).length + 1 : Nat) : Int) == 1027) && ((((X 1024).length : Nat) : Int) == 1026)) && ((((X 1025).length : Nat) : Int) == 1027)) && (!(far1024 1025))) && (far1025 1026)) && (0 == 0)) && (0 == 0)))] (fun W => Below w.heap.size w W ∧ Kd.C Kd.bool W (some ⟨gf1024, 0, none⟩) (X 1024).length (farL far1024 (X 1024).length) ∧ Kd.C Kd.bool W (some ⟨gf1025, 0, none⟩) (X 1025).length (farL far1025 (X 1025).length)) (by kernel_rfl) hG ?_ ?_
  · intro vs W hG b hb
    have e3 : b.eval (.tmp 3) = .slice (some adb1024) ((X 1024).length + 1) cb1024 := eo hb (by kernel_rfl)
    have e4 : b.eval (.tmp 4) = .slice (some ⟨gf1024, 0, none⟩) (X 1024).length (X 1024).length := eo hb (by kernel_rfl)
    have e5 : b.eval (.tmp 5) = .int .i64 0 := eo hb (by kernel_rfl)
    have e7 : b.eval (.tmp 7) = .slice (some ⟨gf1025, 0, none⟩) (X 1025).length (X 1025).length := eo hb (by kernel_rfl)
    have e8 : b.eval (.tmp 8) = .int .i64 0 := eo hb (by kernel_rfl)
    have i34 := ei (d := 34) hb 0 (by kernel_rfl) rfl rfl (by simp)
    have i35 := ei (d := 35) hb 1 (by kernel_rfl) rfl rfl (by simp)
    have i36 := ei (d := 36) hb 2 (by kernel_rfl) rfl rfl (by simp)
    have i37 := ei (d := 37) hb 3 (by kernel_rfl) rfl rfl (by simp)
    have i38 := ei (d := 38) hb 4 (by kernel_rfl) rfl rfl (by simp)
    have i39 := ei (d := 39) hb 5 (by kernel_rfl) rfl rfl (by simp)
    have i40 := ei (d := 40) hb 6 (by kernel_rfl) rfl rfl (by simp)
    have i41 := ei (d := 41) hb 7 (by kernel_rfl) rfl rfl (by simp)
    have i42 := ei (d := 42) hb 8 (by kernel_rfl) rfl rfl (by simp)
    have i43 := ei (d := 43) hb 9 (by kernel_rfl) rfl rfl (by simp)
    have i44 := ei (d := 44) hb 10 (by kernel_rfl) rfl rfl (by simp)
    have i45 := ei (d := 45) hb 11 (by kernel_rfl) rfl rfl (by simp)
    have i46 := ei (d := 46) hb 12 (by kernel_rfl) rfl rfl (by simp)
    have i47 := ei (d := 47) hb 13 (by kernel_rfl) rfl rfl (by simp)
    have i48 := ei (d := 48) hb 14 (by kernel_rfl) rfl rfl (by simp)
    have i49 := ei (d := 49) hb 15 (by kernel_rfl) rfl rfl (by simp)
    have i50 := ei (d := 50) hb 16 (by kernel_rfl) rfl rfl (by simp)
    have i51 := ei (d := 51) hb 17 (by kernel_rfl) rfl rfl (by simp)
    have i52 := ei (d := 52) hb 18 (by kernel_rfl) rfl rfl (by simp)
    have i53 := ei (d := 53) hb 19 (by kernel_rfl) rfl rfl (by simp)
    have i54 := ei (d := 54) hb 20 (by kernel_rfl) rfl rfl (by simp)
    have i55 := ei (d := 55) hb 21 (by kernel_rfl) rfl rfl (by simp)
    have i56 := ei (d := 56) hb 22 (by kernel_rfl) rfl rfl (by simp)
    have i57 := ei (d := 57) hb 23 (by kernel_rfl) rfl rfl (by simp)
    have i58 := ei (d := 58) hb 24 (by kernel_rfl) rfl rfl (by simp)
    have i59 := ei (d := 59) hb 25 (by kernel_rfl) rfl rfl (by simp)
    have i60 := ei (d := 60) hb 26 (by kernel_rfl) rfl rfl (by simp)
    have i61 := ei (d := 61) hb 27 (by kernel_rfl) rfl rfl (by simp)
    have i62 := ei (d := 62) hb 28 (by kernel_rfl) rfl rfl (by simp)
    have i63 := ei (d := 63) hb 29 (by kernel_rfl) rfl rfl (by simp)
    have i64 := ei (d := 64) hb 30 (by kernel_rfl) rfl rfl (by simp)
    have i65 := ei (d := 65) hb 31 (by kernel_rfl) rfl rfl (by simp)
    clear hb
    refine And.intro ?_ (And.intro ?_ (And.intro ?_ (And.intro ?_ (And.intro ?_ (And.intro ?_ (And.intro ?_ (And.intro ?_ (And.intro ?_ (And.intro ?_ (And.intro ?_ (And.intro ?_ (And.intro ?_ (And.intro ?_ (And.intro ?_ (And.intro ?_ (And.intro ?_ (And.intro ?_ (And.intro ?_ (And.intro ?_ (And.intro ?_ (And.intro ?_ (And.intro ?_ (And.intro ?_ (And.intro ?_ (And.intro ?_ (And.intro ?_ (And.intro ?_ (And.intro ?_ (And.intro ?_ (And.intro ?_ (And.intro ?_ (And.intro ?_ (trivial)))))))))))))))))))))))))))))))))
    · intro hp K hK
      refine g_no rfl ?_
      exact st_move (.inl rfl) (e3) (hK _ _ rfl hG (Below.refl _ _))
    · intro hp K hK
      refine g_no rfl ?_
      have e34 : b.eval (.tmp 34) = _ := i34.trans (hp 0 (by kernel_rfl))
      exact st_builtin rfl (by first | (simp only [List.map_toArray, List.map_cons, List.map_nil, eval_const, e34]; done) | (simp only [List.map_toArray, List.map_cons, List.map_nil, eval_const, e34]; rfl)) (fun cs => b_len 25 (by decide) cs _) (hK _ _ rfl hG (Below.refl _ _))
    · intro hp K hK
      refine g_no rfl ?_
      have e35 : b.eval (.tmp 35) = _ := i35.trans (hp 1 (by kernel_rfl))
      exact st_bin rfl (e35) (eval_const _) b_eql (hK _ _ rfl hG (Below.refl _ _))
    · intro hp K hK
      refine g_no rfl ?_
      have e36 : b.eval (.tmp 36) = _ := i36.trans (hp 2 (by kernel_rfl))
      exact st_move (.inl rfl) (e36) (hK _ _ rfl hG (Below.refl _ _))
    · intro hp K hK
      refine g_is (j := 3) (want := true) (c := (((X 1024).length + 1 : Nat) : Int) == 1027) rfl (yielded_of (d := 37) rfl rfl (i37.trans (hp 3 (by kernel_rfl)))) (fun hb => ?_) (fun hb => hK _ _ (cond_no hb) hG (Below.refl _ _))
      exact st_move (.inl rfl) (e4) (hK _ _ (cond_yes hb).symm hG (Below.refl _ _))
    · intro hp K hK
      refine g_is (j := 3) (want := true) (c := (((X 1024).length + 1 : Nat) : Int) == 1027) rfl (yielded_of (d := 37) rfl rfl (i37.trans (hp 3 (by kernel_rfl)))) (fun hb => ?_) (fun hb => hK _ _ (cond_no hb) hG (Below.refl _ _))
      have e38 : b.eval (.tmp 38) = _ := i38.trans (hp 4 (by kernel_rfl))
      replace e38 := e38.trans (cond_yes hb)
      exact st_builtin rfl (by first | (simp only [List.map_toArray, List.map_cons, List.map_nil, eval_const, e38]; done) | (simp only [List.map_toArray, List.map_cons, List.map_nil, eval_const, e38]; rfl)) (fun cs => b_len 26 (by decide) cs _) (hK _ _ (cond_yes hb).symm hG (Below.refl _ _))
    · intro hp K hK
      refine g_is (j := 3) (want := true) (c := (((X 1024).length + 1 : Nat) : Int) == 1027) rfl (yielded_of (d := 37) rfl rfl (i37.trans (hp 3 (by kernel_rfl)))) (fun hb => ?_) (fun hb => hK _ _ (cond_no hb) hG (Below.refl _ _))
      have e39 : b.eval (.tmp 39) = _ := i39.trans (hp 5 (by kernel_rfl))
      replace e39 := e39.trans (cond_yes hb)
      exact st_bin rfl (e39) (eval_const _) b_eql (hK _ _ (cond_yes hb).symm hG (Below.refl _ _))
    · intro hp K hK
      refine g_no rfl ?_
      have e37 : b.eval (.tmp 37) = _ := i37.trans (hp 3 (by kernel_rfl))
      have e40 : b.eval (.tmp 40) = _ := i40.trans (hp 6 (by kernel_rfl))
      exact st_pick rfl (e37) (by first | (rw [e40]; exact pick_and) | (rw [show b.eval (Operand.tmp 40) = _ from eval_const _]; exact pick_and)) (hK _ _ rfl hG (Below.refl _ _))
    · intro hp K hK
      refine g_no rfl ?_
      have e41 : b.eval (.tmp 41) = _ := i41.trans (hp 7 (by kernel_rfl))
      exact st_move (.inl rfl) (e41) (hK _ _ rfl hG (Below.refl _ _))
    · intro hp K hK
      refine g_is (j := 8) (want := true) (c := ((((X 1024).length + 1 : Nat) : Int) == 1027) && ((((X 1024).length : Nat) : Int) == 1026)) rfl (yielded_of (d := 42) rfl rfl (i42.trans (hp 8 (by kernel_rfl)))) (fun hb => ?_) (fun hb => hK _ _ (cond_no hb) hG (Below.refl _ _))
      exact st_move (.inl rfl) (e7) (hK _ _ (cond_yes hb).symm hG (Below.refl _ _))
    · intro hp K hK
      refine g_is (j := 8) (want := true) (c := ((((X 1024).length + 1 : Nat) : Int) == 1027) && ((((X 1024).length : Nat) : Int) == 1026)) rfl (yielded_of (d := 42) rfl rfl (i42.trans (hp 8 (by kernel_rfl)))) (fun hb => ?_) (fun hb => hK _ _ (cond_no hb) hG (Below.refl _ _))
      have e43 : b.eval (.tmp 43) = _ := i43.trans (hp 9 (by kernel_rfl))
      replace e43 := e43.trans (cond_yes hb)
      exact st_builtin rfl (by first | (simp only [List.map_toArray, List.map_cons, List.map_nil, eval_const, e43]; done) | (simp only [List.map_toArray, List.map_cons, List.map_nil, eval_const, e43]; rfl)) (fun cs => b_len 26 (by decide) cs _) (hK _ _ (cond_yes hb).symm hG (Below.refl _ _))
    · intro hp K hK
      refine g_is (j := 8) (want := true) (c := ((((X 1024).length + 1 : Nat) : Int) == 1027) && ((((X 1024).length : Nat) : Int) == 1026)) rfl (yielded_of (d := 42) rfl rfl (i42.trans (hp 8 (by kernel_rfl)))) (fun hb => ?_) (fun hb => hK _ _ (cond_no hb) hG (Below.refl _ _))
      have e44 : b.eval (.tmp 44) = _ := i44.trans (hp 10 (by kernel_rfl))
      replace e44 := e44.trans (cond_yes hb)
      exact st_bin rfl (e44) (eval_const _) b_eql (hK _ _ (cond_yes hb).symm hG (Below.refl _ _))
    · intro hp K hK
      refine g_no rfl ?_
      have e42 : b.eval (.tmp 42) = _ := i42.trans (hp 8 (by kernel_rfl))
      have e45 : b.eval (.tmp 45) = _ := i45.trans (hp 11 (by kernel_rfl))
      exact st_pick rfl (e42) (by first | (rw [e45]; exact pick_and) | (rw [show b.eval (Operand.tmp 45) = _ from eval_const _]; exact pick_and)) (hK _ _ rfl hG (Below.refl _ _))
    · intro hp K hK
      refine g_no rfl ?_
      have e46 : b.eval (.tmp 46) = _ := i46.trans (hp 12 (by kernel_rfl))
      exact st_move (.inl rfl) (e46) (hK _ _ rfl hG (Below.refl _ _))
    · intro hp K hK
      refine g_is (j := 13) (want := true) (c := (((((X 1024).length + 1 : Nat) : Int) == 1027) && ((((X 1024).length : Nat) : Int) == 1026)) && ((((X 1025).length : Nat) : Int) == 1027)) rfl (yielded_of (d := 47) rfl rfl (i47.trans (hp 13 (by kernel_rfl)))) (fun hb => ?_) (fun hb => hK _ _ (cond_no hb) hG (Below.refl _ _))
      exact st_move (.inl rfl) (e4) (hK _ _ (cond_yes hb).symm hG (Below.refl _ _))
    · intro hp K hK
      refine g_is (j := 13) (want := true) (c := (((((X 1024).length + 1 : Nat) : Int) == 1027) && ((((X 1024).length : Nat) : Int) == 1026)) && ((((X 1025).length : Nat) : Int) == 1027)) rfl (yielded_of (d := 47) rfl rfl (i47.trans (hp 13 (by kernel_rfl)))) (fun hb => ?_) (fun hb => hK _ _ (cond_no hb) hG (Below.refl _ _))
      have e48 : b.eval (.tmp 48) = _ := i48.trans (hp 14 (by kernel_rfl))
      replace e48 := e48.trans (cond_yes hb)
      exact st_index rfl (e48) (eval_const _) (by have h := ix26 (ad := ⟨gf1024, 0, none⟩) (c := (X 1024).length) (n := (X 1024).length) (i := 1025) (by rw [X_len]; decide) W; rw [Addr.add_mid] at h; exact h) (hK _ _ (cond_yes hb).symm hG (Below.refl _ _))
    · intro hp K hK
      refine g_is (j := 13) (want := true) (c := (((((X 1024).length + 1 : Nat) : Int) == 1027) && ((((X 1024).length : Nat) : Int) == 1026)) && ((((X 1025).length : Nat) : Int) == 1027)) rfl (yielded_of (d := 47) rfl rfl (i47.trans (hp 13 (by kernel_rfl)))) (fun hb => ?_) (fun hb => hK _ _ (cond_no hb) hG (Below.refl _ _))
      have e49 : b.eval (.tmp 49) = _ := i49.trans (hp 15 (by kernel_rfl))
      replace e49 := e49.trans (cond_yes hb)
      exact st_load rfl (e49) (by obtain ⟨a', ha', hl'⟩ := ld_far hG.2.1 (i := 1025) (by rw [X_len]; decide); rw [← Option.some.inj ha', Addr.add_mid] at hl'; exact ld_cell 4 (by kernel_rfl) hl') (hK _ _ (cond_yes hb).symm hG (Below.refl _ _))
    · intro hp K hK
      refine g_is (j := 13) (want := true) (c := (((((X 1024).length + 1 : Nat) : Int) == 1027) && ((((X 1024).length : Nat) : Int) == 1026)) && ((((X 1025).length : Nat) : Int) == 1027)) rfl (yielded_of (d := 47) rfl rfl (i47.trans (hp 13 (by kernel_rfl)))) (fun hb => ?_) (fun hb => hK _ _ (cond_no hb) hG (Below.refl _ _))
      have e50 : b.eval (.tmp 50) = _ := i50.trans (hp 16 (by kernel_rfl))
      replace e50 := e50.trans (cond_yes hb)
      exact st_un rfl (e50) u_not (hK _ _ (cond_yes hb).symm hG (Below.refl _ _))
    · intro hp K hK
      refine g_no rfl ?_
      have e47 : b.eval (.tmp 47) = _ := i47.trans (hp 13 (by kernel_rfl))
      have e51 : b.eval (.tmp 51) = _ := i51.trans (hp 17 (by kernel_rfl))
      exact st_pick rfl (e47) (by first | (rw [e51]; exact pick_and) | (rw [show b.eval (Operand.tmp 51) = _ from eval_const _]; exact pick_and)) (hK _ _ rfl hG (Below.refl _ _))
    · intro hp K hK
      refine g_no rfl ?_
      have e52 : b.eval (.tmp 52) = _ := i52.trans (hp 18 (by kernel_rfl))
      exact st_move (.inl rfl) (e52) (hK _ _ rfl hG (Below.refl _ _))
    · intro hp K hK
      refine g_is (j := 19) (want := true) (c := ((((((X 1024).length + 1 : Nat) : Int) == 1027) && ((((X 1024).length : Nat) : Int) == 1026)) && ((((X 1025).length : Nat) : Int) == 1027)) && (!(far1024 1025))) rfl (yielded_of (d := 53) rfl rfl (i53.trans (hp 19 (by kernel_rfl)))) (fun hb => ?_) (fun hb => hK _ _ (cond_no hb) hG (Below.refl _ _))
      exact st_move (.inl rfl) (e7) (hK _ _ (cond_yes hb).symm hG (Below.refl _ _))
    · intro hp K hK
      refine g_is (j := 19) (want := true) (c := ((((((X 1024).length + 1 : Nat) : Int) == 1027) && ((((X 1024).length : Nat) : Int) == 1026)) && ((((X 1025).length : Nat) : Int) == 1027)) && (!(far1024 1025))) rfl (yielded_of (d := 53) rfl rfl (i53.trans (hp 19 (by kernel_rfl)))) (fun hb => ?_) (fun hb => hK _ _ (cond_no hb) hG (Below.refl _ _))
      have e54 : b.eval (.tmp 54) = _ := i54.trans (hp 20 (by kernel_rfl))
      replace e54 := e54.trans (cond_yes hb)
      exact st_index rfl (e54) (eval_const _) (by have h := ix26 (ad := ⟨gf1025, 0, none⟩) (c := (X 1025).length) (n := (X 1025).length) (i := 1026) (by rw [X_len]; decide) W; rw [Addr.add_mid] at h; exact h) (hK _ _ (cond_yes hb).symm hG (Below.refl _ _))
    · intro hp K hK
      refine g_is (j := 19) (want := true) (c := ((((((X 1024).length + 1 : Nat) : Int) == 1027) && ((((X 1024).length : Nat) : Int) == 1026)) && ((((X 1025).length : Nat) : Int) == 1027)) && (!(far1024 1025))) rfl (yielded_of (d := 53) rfl rfl (i53.trans (hp 19 (by kernel_rfl)))) (fun hb => ?_) (fun hb => hK _ _ (cond_no hb) hG (Below.refl _ _))
      have e55 : b.eval (.tmp 55) = _ := i55.trans (hp 21 (by kernel_rfl))
      replace e55 := e55.trans (cond_yes hb)
      exact st_load rfl (e55) (by obtain ⟨a', ha', hl'⟩ := ld_far hG.2.2 (i := 1026) (by rw [X_len]; decide); rw [← Option.some.inj ha', Addr.add_mid] at hl'; exact ld_cell 4 (by kernel_rfl) hl') (hK _ _ (cond_yes hb).symm hG (Below.refl _ _))
    · intro hp K hK
      refine g_no rfl ?_
      have e53 : b.eval (.tmp 53) = _ := i53.trans (hp 19 (by kernel_rfl))
      have e56 : b.eval (.tmp 56) = _ := i56.trans (hp 22 (by kernel_rfl))
      exact st_pick rfl (e53) (by first | (rw [e56]; exact pick_and) | (rw [show b.eval (Operand.tmp 56) = _ from eval_const _]; exact pick_and)) (hK _ _ rfl hG (Below.refl _ _))
    · intro hp K hK
      refine g_no rfl ?_
      have e57 : b.eval (.tmp 57) = _ := i57.trans (hp 23 (by kernel_rfl))
      exact st_move (.inl rfl) (e57) (hK _ _ rfl hG (Below.refl _ _))
    · intro hp K hK
      refine g_is (j := 24) (want := true) (c := (((((((X 1024).length + 1 : Nat) : Int) == 1027) && ((((X 1024).length : Nat) : Int) == 1026)) && ((((X 1025).length : Nat) : Int) == 1027)) && (!(far1024 1025))) && (far1025 1026)) rfl (yielded_of (d := 58) rfl rfl (i58.trans (hp 24 (by kernel_rfl)))) (fun hb => ?_) (fun hb => hK _ _ (cond_no hb) hG (Below.refl _ _))
      exact st_move (.inl rfl) (e5) (hK _ _ (cond_yes hb).symm hG (Below.refl _ _))
    · intro hp K hK
      refine g_is (j := 24) (want := true) (c := (((((((X 1024).length + 1 : Nat) : Int) == 1027) && ((((X 1024).length : Nat) : Int) == 1026)) && ((((X 1025).length : Nat) : Int) == 1027)) && (!(far1024 1025))) && (far1025 1026)) rfl (yielded_of (d := 58) rfl rfl (i58.trans (hp 24 (by kernel_rfl)))) (fun hb => ?_) (fun hb => hK _ _ (cond_no hb) hG (Below.refl _ _))
      have e59 : b.eval (.tmp 59) = _ := i59.trans (hp 25 (by kernel_rfl))
      replace e59 := e59.trans (cond_yes hb)
      exact st_bin rfl (e59) (eval_const _) b_eql (hK _ _ (cond_yes hb).symm hG (Below.refl _ _))
    · intro hp K hK
      refine g_no rfl ?_
      have e58 : b.eval (.tmp 58) = _ := i58.trans (hp 24 (by kernel_rfl))
      have e60 : b.eval (.tmp 60) = _ := i60.trans (hp 26 (by kernel_rfl))
      exact st_pick rfl (e58) (by first | (rw [e60]; exact pick_and) | (rw [show b.eval (Operand.tmp 60) = _ from eval_const _]; exact pick_and)) (hK _ _ rfl hG (Below.refl _ _))
    · intro hp K hK
      refine g_no rfl ?_
      have e61 : b.eval (.tmp 61) = _ := i61.trans (hp 27 (by kernel_rfl))
      exact st_move (.inl rfl) (e61) (hK _ _ rfl hG (Below.refl _ _))
    · intro hp K hK
      refine g_is (j := 28) (want := true) (c := ((((((((X 1024).length + 1 : Nat) : Int) == 1027) && ((((X 1024).length : Nat) : Int) == 1026)) && ((((X 1025).length : Nat) : Int) == 1027)) && (!(far1024 1025))) && (far1025 1026)) && (0 == 0)) rfl (yielded_of (d := 62) rfl rfl (i62.trans (hp 28 (by kernel_rfl)))) (fun hb => ?_) (fun hb => hK _ _ (cond_no hb) hG (Below.refl _ _))
      exact st_move (.inl rfl) (e8) (hK _ _ (cond_yes hb).symm hG (Below.refl _ _))
    · intro hp K hK
      refine g_is (j := 28) (want := true) (c := ((((((((X 1024).length + 1 : Nat) : Int) == 1027) && ((((X 1024).length : Nat) : Int) == 1026)) && ((((X 1025).length : Nat) : Int) == 1027)) && (!(far1024 1025))) && (far1025 1026)) && (0 == 0)) rfl (yielded_of (d := 62) rfl rfl (i62.trans (hp 28 (by kernel_rfl)))) (fun hb => ?_) (fun hb => hK _ _ (cond_no hb) hG (Below.refl _ _))
      have e63 : b.eval (.tmp 63) = _ := i63.trans (hp 29 (by kernel_rfl))
      replace e63 := e63.trans (cond_yes hb)
      exact st_bin rfl (e63) (eval_const _) b_eql (hK _ _ (cond_yes hb).symm hG (Below.refl _ _))
    · intro hp K hK
      refine g_no rfl ?_
      have e62 : b.eval (.tmp 62) = _ := i62.trans (hp 28 (by kernel_rfl))
      have e64 : b.eval (.tmp 64) = _ := i64.trans (hp 30 (by kernel_rfl))
      exact st_pick rfl (e62) (by first | (rw [e64]; exact pick_and) | (rw [show b.eval (Operand.tmp 64) = _ from eval_const _]; exact pick_and)) (hK _ _ rfl hG (Below.refl _ _))
    · intro hp K hK
      refine g_no rfl ?_
      have e65 : b.eval (.tmp 65) = _ := i65.trans (hp 31 (by kernel_rfl))
      exact st_move (.inr rfl) (e65) (hK _ _ rfl hG (Below.refl _ _))
  intro vs W hG hp b hb
  have q32 : vs 32 = _ := hp 32 (by decide)
  clear hp
  simp only [fill, Act.put, List.append_eq, List.cons_append, List.nil_append, List.take_succ_cons, List.take_zero, List.setIfInBounds_toArray, List.set_cons_succ, List.set_cons_zero, Nat.reduceAdd, Nat.zero_add, q32] at hb
  subst hb
  refine wpList_nil ?_
  clear q32
  refine HK5.out _ _ ?_
  clear HK5
  have hc : ((((((((((X 1024).length + 1 : Nat) : Int) == 1027) && ((((X 1024).length : Nat) : Int) == 1026)) && ((((X 1025).length : Nat) : Int) == 1027)) && (!(far1024 1025))) && (far1025 1026)) && (0 == 0)) && (0 == 0)) = true := by
    rw [hq1, hq2, hX1, hX2]
    rfl
  rw [hc]
  clear hc
  have HG := Lib.hid hG.1
  clear hG
  go_wp2
  go_ret
  exact ⟨rfl, HG.out⟩
end Go.Proofs.Ytihecimbhhlhaaa.Rl
