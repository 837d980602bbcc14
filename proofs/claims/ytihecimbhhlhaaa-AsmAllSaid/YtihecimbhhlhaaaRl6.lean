/- Whether all jumps reach. -/
import Derived.Test.YtihecimbhhlhaaaRl5
import Derived.Test.YtihecimbhhlhaaaRsG6
import Derived.Test.YtihecimbhhlhaaaRsMc
namespace Go.Proofs.Ytihecimbhhlhaaa.Rl
open Go.RowKit Dr PRs
open Go.Proofs.YtihecimbhhlhaaaW.PrintWords (Kd Kd.C Kd.R Kd.C_below Kd.C_get Kd.R_below Kd.R_reads Kd.R_reads' Kd.R_types Kd.R_step Kd.R_alloc Kd.R_drew Kd.R_lower add_field)
set_option linter.unusedVariables false
set_option linter.unusedSimpArgs false
set_option maxRecDepth 100000
theorem below_drawn {w w' : World} (h : Go.Proofs.YtihecimbhhlhaaaW.PrintWords.Drawn0 w w') : Below w.heap.size w w' := by
 obtain ⟨m, rfl⟩ := h
 exact Go.Proofs.YtihecimbhhlhaaaW.PrintWords.pw_below_drewN (Below.refl _ _) m
theorem ix25n {ad : Addr} {n c i : Nat} (h : i < n) (W : World) : (Instr.indexAt 25 (.slice (some ad) n c) (.int .i64 (i : Int))).run Try.prog W = .ok (.pointer (some (ad.add i))) W := by
 have := ix25 (ad := ad) (n := n) (c := c) (j := (i : Int)) (by omega) (by omega) W
 rwa [Int.toNat_natCast] at this
theorem ld_beg {W : World} {A : Option Addr} {l : List S34} {far : Nat → Bool} {n i : Nat} (h : Kd.C (Kd.int .i64) W A n (begs l far n)) (hi : i < n) : ∃ ad, A = some ad ∧ W.cell? (ad.add i) = some (.int .i64 (beg l far i)) := by
 obtain ⟨ad, c, e, _, hK, hc⟩ := Kd.C_get h 0 (i : Int) (by omega) (by omega)
 rw [Int.toNat_natCast] at hK hc
 have hx : (begs l far n).getD i 0 = beg l far i := by simp [begs, List.getD, hi]
 rw [hx] at hK
 obtain rfl : c = [.int .i64 (beg l far i)] := hK
 refine ⟨ad, e, ?_⟩
 have := hc 0 _ rfl
 simpa [Kd.int, Kd.scalar] using this
/-- Where a key's label stands; 0: nowhere. -/
def at_ (l : List S34) (key : Int) : Nat := ((lab l l.length key).getD 0).toNat
theorem at_lt (l : List S34) (key : Int) : at_ l key < l.length + 1 := by
 unfold at_
 cases h : lab l l.length key with
 | none => simp
 | some j =>
  obtain ⟨i, rfl, h1, -⟩ := lab_in h
  simp
  omega
theorem at_is (l : List S34) (key : Int) : (lab l l.length key).getD 0 = (at_ l key : Int) := by
 unfold at_
 cases h : lab l l.length key with
 | none => simp
 | some j =>
  obtain ⟨i, rfl, h1, -⟩ := lab_in h
  simp
theorem within_some (a b c : Int) : relax_within.f a b c = some (decide (b ≤ a ∧ a ≤ c)) := by
 unfold relax_within.f
 by_cases h : a ≥ b
 · rw [if_pos h]; simp [h]
 · rw [if_neg h, decide_eq_false (by omega)]
theorem look_at {W : World} {b : Nat} {l : List S34} (h : mapIs W b l.length (lab l l.length)) {key : Int} (hk : In64 key) : (Instr.lookup 49 (.map (some b)) (.int .i64 key) false).run Try.prog W = .ok (.int .i64 (at_ l key : Int)) W := by
 rw [← at_is]
 exact look h hk
theorem lfxRl60 {P : Prop} (h : P := by
 have hc : (((far i) || (x.f0 == 4)) && (!true)) = false := by simp
 rw [hc]
 clear hc
 apply wp_cond_false rfl
 apply wp_skip
 simp only [Exit.inBlock, Exit.then, ↓reduceIte]
 refine HK6.out _ _ ?_; clear HK6
 have HG := Lib.hid hG.1
 have Hil := Lib.hid hil
 clear hG hil hi hbi hba hal
 go_wp2
 exact ⟨loop_frame kr, ⟨i + 1, m_56, Hil.out, HG.out⟩, Msr.lt (by have := Hil.out; omega)⟩) : P := h
set_option maxHeartbeats 8000000 in
theorem jumps_is (A Af Ab : Option Addr) (c cf cb gm : Nat) (l : List S34) (far : Nat → Bool) (w : World) (hl : l.length ≤ 4000) (hI : ∀ x ∈ l, In64 x.f2) (hC : Kd.C k34 w A l.length l) (hF : Kd.C Kd.bool w Af l.length (farL far l.length)) (hB : Kd.C (Kd.int .i64) w Ab (l.length + 1) (begs l far (l.length + 1))) (hM : mapIs w gm l.length (lab l l.length)) :
 Calls Try.prog 20 #[.slice A l.length c, .map (some gm), .slice Af l.length cf, .slice Ab (l.length + 1) cb] w fun e w' => e = .returned (.bool true) ∧ Below w.heap.size w w' := by
 have HL := Lib.hid hl
 have HI := Lib.hid hI
 have HC := Lib.hid hC
 have HF := Lib.hid hF
 have HBg := Lib.hid hB
 have HM := Lib.hid hM
 clear hl hI hC hF hB hM
 go_enter Try.func20, Try.ntmps20
 refine wp_seq_h fun K1 HK1 => ?_
 refine wp_listed (R := fun W W' => Below W.heap.size W W') 1 [.val (.bool false)] (fun W => Below w.heap.size w W) kr (Below.refl _ _) ?_ ?_
 · intro vs W hG b hb
   clear hb
   refine And.intro ?_ (trivial)
   · refine g0 fun hp K hK => ?_; exact st_move (.inr rfl) (eval_const _) (hK _ _ rfl hG (Below.refl _ _))
 intro vs W hG hp b hb
 have q0 : vs 0 = _ := hp 0 kd
 clear hp
 simp only [fillS, Nat.reduceAdd, Nat.zero_add, q0] at hb
 subst hb
 refine wpList_nil ?_
 clear q0
 refine HK1.out _ _ ?_; clear HK1
 refine wp_seq_h fun K2 HK2 => ?_
 refine wp_seq_h fun K3 HK3 => ?_
 refine wp_listed (R := fun W W' => Below W.heap.size W W') 3 [.val (.slice A l.length c), .val (.int .i64 (l.length : Int)), .val (.int .i64 0)] (fun W => Below w.heap.size w W) kr hG ?_ ?_
 · intro vs W hG b hb
   have e0 : b.eval (.tmp 0) = .slice A l.length c := eo_ hb
   have i12 := ei_ 12 hb 0
   clear hb
   refine And.intro ?_ (And.intro ?_ (And.intro ?_ (trivial)))
   · refine g0 fun hp K hK => ?_; exact st_move (.inl rfl) (e0) (hK _ _ rfl hG (Below.refl _ _))
   · refine g0 fun hp K hK => ?_; have e12 : b.eval (.tmp 12) = _ := i12.trans (hp 0 kr); exact st_builtin rfl (m_46) (fun cs => b_len 23 (by decide) cs _) (hK _ _ rfl hG (Below.refl _ _))
   · refine g0 fun hp K hK => ?_; exact st_move (.inl rfl) (eval_const _) (hK _ _ rfl hG (Below.refl _ _))
 intro vs W hG hp b hb
 have q0 : vs 0 = _ := hp 0 kd
 have q1 : vs 1 = _ := hp 1 kd
 have q2 : vs 2 = _ := hp 2 kd
 clear hp
 simp only [fillS, Nat.reduceAdd, Nat.zero_add, q0, q1, q2] at hb
 subst hb
 refine wpList_nil ?_
 clear q0 q1 q2
 refine HK3.out _ _ ?_; clear HK3
 apply wp_block
 refine wp_loopS [9, 10, 11, 14, 15, 16, 17, 18, 19, 20, 21, 22, 23, 24, 25, 26, 27, 28, 29, 30, 31, 32, 33, 34, 35, 36, 37, 38, 39, 40, 41, 42, 43, 44, 45, 46, 47, 48, 49, 50, 51] (fun sl W => ∃ i : Nat, sl 14 = .int .i64 (i : Int) ∧ i ≤ l.length ∧ Below w.heap.size w W) (fun sl W => Msr (l.length : Int) (sl 14)) ⟨0, rfl, Nat.zero_le _, hG⟩ ?_
 clear hG
 intro vs W b hb hI
 obtain ⟨i, hsl, hi, hG⟩ := hI
 simp only [setSlots, Act.put, List.setIfInBounds_toArray, List.set_cons_succ, List.set_cons_zero] at hb
 subst hb
 replace hsl : vs 14 = .int .i64 (i : Int) := hsl
 rw [hsl]
 clear hsl
 refine wp_seq_h fun K4 HK4 => ?_
 refine wp_listed (R := fun W W' => Below W.heap.size W W') 1 [.val (.bool (decide ((i : Int) < (l.length : Int))))] (fun W => Below w.heap.size w W) kr hG ?_ ?_
 · intro vs W hG b hb
   have e13 : b.eval (.tmp 13) = .int .i64 (l.length : Int) := eo_ hb
   have e14 : b.eval (.tmp 14) = .int .i64 (i : Int) := eo_ hb
   clear hb
   refine And.intro ?_ (trivial)
   · refine g0 fun hp K hK => ?_; exact st_bin rfl (e14) (e13) b_lss (hK _ _ rfl hG (Below.refl _ _))
 intro vs W hG hp b hb
 have q0 : vs 0 = _ := hp 0 kd
 clear hp
 simp only [fillS, Nat.reduceAdd, Nat.zero_add, q0] at hb
 subst hb
 refine wpList_nil ?_
 clear q0
 refine HK4.out _ _ ?_; clear HK4
 refine wp_seq_h fun K5 HK5 => ?_
 refine wp_cond_split rfl (fun hlt => ?_) (fun hlt => ?_)
 rotate_left
 · clear hlt
   apply wp_exit
   simp only [Exit.inBlock, Exit.then, ↓reduceIte]
   refine HK2.out _ _ ?_; clear HK2
   have HG := Lib.hid hG
   clear hG
   go_wp2
   go_ret
   exact ⟨rfl, HG.out⟩
 have hil : i < l.length := by have := of_decide_eq_true hlt; omega
 clear hlt
 apply wp_skip
 simp only [Exit.then]
 refine HK5.out _ _ ?_; clear HK5
 replace hG : Below w.heap.size w W ∧ True := ⟨hG, trivial⟩
 have hx : l[i]? = some l[i] := List.getElem?_eq_getElem hil
 have hxm := List.getElem_mem hil
 generalize l[i] = x at hx hxm
 have hgx : l.getD i z34 = x := by simp [List.getD, hx]
 obtain ⟨ad, hAd, -⟩ := ld_it (Kd.C_below HC.out hG.1) hx
 subst hAd
 obtain ⟨adf, hAf, -⟩ := ld_far HF.out hil
 subst hAf
 obtain ⟨adb, hAb, -⟩ := ld_beg HBg.out (i := i) (by omega)
 subst hAb
 refine wp_seq_h fun K6 HK6 => ?_
 apply wp_block
 refine wp_seq_h fun K7 HK7 => ?_
 refine wp_listed (R := fun W W' => Below W.heap.size W W') 5 [.val (.int .i64 (i : Int)), .val (.pointer (some (ad.add (i * 7)))), .val (.agg (it x)), newSpec (.cells (it z34) 34 (0, 0)) (w.heap.size), .val (.int .i64 (i : Int))] (fun W => Below w.heap.size w W ∧ True) kr hG ?_ ?_
 · intro vs W hG b hb
   have e12 : b.eval (.tmp 12) = .slice (some ad) l.length c := eo_ hb
   have e14 : b.eval (.tmp 14) = .int .i64 (i : Int) := eo_ hb
   have i16 := ei_ 16 hb 0
   have i17 := ei_ 17 hb 1
   clear hb
   refine And.intro ?_ (And.intro ?_ (And.intro ?_ (And.intro ?_ (And.intro ?_ (trivial)))))
   · refine g0 fun hp K hK => ?_; exact st_move (.inl rfl) (e14) (hK _ _ rfl hG (Below.refl _ _))
   · refine g0 fun hp K hK => ?_; exact st_index rfl (e12) (e14) (ix23 hil _) (hK _ _ rfl hG (Below.refl _ _))
   · refine g0 fun hp K hK => ?_; have e17 : b.eval (.tmp 17) = _ := i17.trans (hp 1 kr); exact st_load rfl (e17) (m_43) (hK _ _ rfl hG (Below.refl _ _))
   · refine g0 fun hp K hK => ?_; exact st_alloc rfl (new34 _) (hK _ _ ⟨_, rfl, blk_new _ _, hG.1.size⟩ ⟨hG.1.alloc hG.1.size _, trivial⟩ ((Below.refl _ _).alloc (Nat.le_refl _) _))
   · refine g0 fun hp K hK => ?_; have e16 : b.eval (.tmp 16) = _ := i16.trans (hp 0 kr); exact st_move (.inr rfl) (e16) (hK _ _ rfl hG (Below.refl _ _))
 intro vs W hG hp b hb
 have q0 : vs 0 = _ := hp 0 kd
 have q1 : vs 1 = _ := hp 1 kd
 have q2 : vs 2 = _ := hp 2 kd
 have q3 : ∃ gg, (vs 3) = .pointer (some ⟨gg, 0, none⟩) ∧ W.heap[gg]? = some (.cells (it z34) 34 (0, 0)) ∧ w.heap.size ≤ gg := hp 3 kd
 have q4 : vs 4 = _ := hp 4 kd
 clear hp
 simp only [fillS, Nat.reduceAdd, Nat.zero_add, q0, q1, q2, q4] at hb
 subst hb
 simp only [List.append_eq, List.cons_append, List.nil_append, List.drop_succ_cons, List.drop_zero]
 clear q0 q1 q2 q4
 obtain ⟨gx, hv, Ax, hg⟩ := q3
 rw [hv]
 clear hv
 refine wpList_store_mid rfl 34 (.tmp 10) (.tmp 18) rfl gx 0 (it x) rfl rfl (by have h := blk_there Ax; exact h) kr kr ?_
 refine wpList_nil ?_
 simp only [Act.put]
 have hG2 : Below w.heap.size w (W.setCells gx 0 (it x).toList) ∧ (W.setCells gx 0 (it x).toList).heap[gx]? = some (.cells (it x) 34 (0, 0)) := ⟨below_sets _ 0 w W gx hG.1 hg, blk_puts (cs' := it x) Ax rfl⟩
 clear Ax hG
 generalize W.setCells gx 0 (it x).toList = V at hG2 ⊢
 clear W
 refine HK7.out _ _ ?_; clear HK7
 refine wp_seq_h fun K8 HK8 => ?_
 refine wp_listed (R := fun W W' => Below W.heap.size W W') 5 [.val (.slice (some adb) (l.length + 1) cb), .val (.int .i64 (i : Int)), .val (.pointer (some (adb.add i))), .val (.int .i64 (beg l far i)), .val (.int .i64 (beg l far i))] (fun W => Below w.heap.size w W ∧ W.heap[gx]? = some (.cells (it x) 34 (0, 0))) kr hG2 ?_ ?_
 · intro vs W hG b hb
   have e3 : b.eval (.tmp 3) = .slice (some adb) (l.length + 1) cb := eo_ hb
   have e9 : b.eval (.tmp 9) = .int .i64 (i : Int) := eo_ hb
   have i19 := ei_ 19 hb 0
   have i20 := ei_ 20 hb 1
   have i21 := ei_ 21 hb 2
   have i22 := ei_ 22 hb 3
   clear hb
   refine And.intro ?_ (And.intro ?_ (And.intro ?_ (And.intro ?_ (And.intro ?_ (trivial)))))
   · refine g0 fun hp K hK => ?_; exact st_move (.inl rfl) (e3) (hK _ _ rfl hG (Below.refl _ _))
   · refine g0 fun hp K hK => ?_; exact st_move (.inl rfl) (e9) (hK _ _ rfl hG (Below.refl _ _))
   · refine g0 fun hp K hK => ?_; have e19 : b.eval (.tmp 19) = _ := i19.trans (hp 0 kr); have e20 : b.eval (.tmp 20) = _ := i20.trans (hp 1 kr); exact st_index rfl (e19) (e20) (ix25n (Nat.lt_succ_of_lt hil) _) (hK _ _ rfl hG (Below.refl _ _))
   · refine g0 fun hp K hK => ?_; have e21 : b.eval (.tmp 21) = _ := i21.trans (hp 2 kr); exact st_load rfl (e21) (by obtain ⟨a', ha', hl'⟩ := ld_beg (Kd.C_below HBg.out hG.1) (Nat.lt_succ_of_lt hil); rw [Option.some.inj ha']; exact ld_cell 3 kr hl') (hK _ _ rfl hG (Below.refl _ _))
   · refine g0 fun hp K hK => ?_; have e22 : b.eval (.tmp 22) = _ := i22.trans (hp 3 kr); exact st_move (.inr rfl) (e22) (hK _ _ rfl hG (Below.refl _ _))
 intro vs W hG hp b hb
 have q4 : vs 4 = _ := hp 4 kd
 clear hp
 simp only [fillS, Nat.reduceAdd, Nat.zero_add, q4] at hb
 subst hb
 refine wpList_nil ?_
 clear q4
 clear hG2
 refine HK8.out _ _ ?_; clear HK8
 refine wp_seq_h fun K9 HK9 => ?_
 refine wp_seq_h fun K10 HK10 => ?_
 refine wp_listed (R := fun W W' => Below W.heap.size W W') 4 [.val (.slice (some adf) l.length cf), .val (.int .i64 (i : Int)), .val (.pointer (some (adf.add i))), .val (.bool (far i))] (fun W => Below w.heap.size w W ∧ W.heap[gx]? = some (.cells (it x) 34 (0, 0))) kr hG ?_ ?_
 · intro vs W hG b hb
   have e2 : b.eval (.tmp 2) = .slice (some adf) l.length cf := eo_ hb
   have e9 : b.eval (.tmp 9) = .int .i64 (i : Int) := eo_ hb
   have i23 := ei_ 23 hb 0
   have i24 := ei_ 24 hb 1
   have i25 := ei_ 25 hb 2
   clear hb
   refine And.intro ?_ (And.intro ?_ (And.intro ?_ (And.intro ?_ (trivial))))
   · refine g0 fun hp K hK => ?_; exact st_move (.inl rfl) (e2) (hK _ _ rfl hG (Below.refl _ _))
   · refine g0 fun hp K hK => ?_; exact st_move (.inl rfl) (e9) (hK _ _ rfl hG (Below.refl _ _))
   · refine g0 fun hp K hK => ?_; have e23 : b.eval (.tmp 23) = _ := i23.trans (hp 0 kr); have e24 : b.eval (.tmp 24) = _ := i24.trans (hp 1 kr); exact st_index rfl (e23) (e24) (ix26 hil _) (hK _ _ rfl hG (Below.refl _ _))
   · refine g0 fun hp K hK => ?_; have e25 : b.eval (.tmp 25) = _ := i25.trans (hp 2 kr); exact st_load rfl (e25) (by obtain ⟨a', ha', hl'⟩ := ld_far (Kd.C_below HF.out hG.1) hil; rw [Option.some.inj ha']; exact ld_cell 4 kr hl') (hK _ _ rfl hG (Below.refl _ _))
 intro vs W hG hp b hb
 have q3 : vs 3 = _ := hp 3 kd
 clear hp
 simp only [fillS, Nat.reduceAdd, Nat.zero_add, q3] at hb
 subst hb
 refine wpList_nil ?_
 clear q3
 refine HK10.out _ _ ?_; clear HK10
 have hinc : IntKind.i64.wrap ((i : Int) + 1) = (i : Int) + 1 := IntWalk.i64_in _ (m_55)
 have hbi := beg_in l far i
 have hba := beg_in l far (at_ l x.f2)
 have hal := at_lt l x.f2
 refine wp_cond_split rfl (fun hf => ?_) (fun hf => ?_)
 · skip
   refine wp_listed (R := fun W W' => Below W.heap.size W W') 2 [.val (.int .i64 (beg l far i)), .val (.int .i64 (beg l far i + 4))] (fun W => Below w.heap.size w W ∧ W.heap[gx]? = some (.cells (it x) 34 (0, 0))) kr hG ?_ ?_
   · intro vs W hG b hb
     have e11 : b.eval (.tmp 11) = .int .i64 (beg l far i) := eo_ hb
     have i27 := ei_ 27 hb 0
     clear hb
     refine And.intro ?_ (And.intro ?_ (trivial))
     · refine g0 fun hp K hK => ?_; exact st_move (.inl rfl) (e11) (hK _ _ rfl hG (Below.refl _ _))
     · refine g0 fun hp K hK => ?_; have e27 : b.eval (.tmp 27) = _ := i27.trans (hp 0 kr); exact st_bin rfl (e27) (eval_const _) (b_add (IntWalk.i64_in _ (m_55))) (hK _ _ rfl hG (Below.refl _ _))
   intro vs W hG hp b hb
   have q1 : vs 1 = _ := hp 1 kd
   clear hp
   simp only [fillS, Nat.reduceAdd, Nat.zero_add, q1] at hb
   subst hb
   simp only [List.append_eq, List.cons_append, List.nil_append, List.drop_succ_cons, List.drop_zero]
   clear q1
   have HG := Lib.hid hG
   have Hbi := Lib.hid (And.intro hbi (And.intro hba hal))
   clear hG hbi hba hal
   go_wp2
   have hG := HG.out
   obtain ⟨hbi, hba, hal⟩ := Hbi.out
   clear HG Hbi
   refine HK9.out _ _ ?_; clear HK9
   refine wp_seq_h fun K11 HK11 => ?_
   refine wp_listed (R := fun W W' => Below W.heap.size W W') 22 [.val (.slice (some adf) l.length cf), .val (.int .i64 (i : Int)), .val (.pointer (some (adf.add i))), .val (.bool (far i)), .val (.bool (far i)), .val ((bif ((far i) == false) then (.pointer (some ⟨gx, 0, none⟩)) else undef)), .val ((bif ((far i) == false) then (.int .i64 x.f0) else undef)), .val ((bif ((far i) == false) then (.bool (x.f0 == 4)) else undef)), .val (.bool ((far i) || (x.f0 == 4))), .val (.bool ((far i) || (x.f0 == 4))), .val ((bif (((far i) || (x.f0 == 4)) == true) then (.slice (some adb) (l.length + 1) cb) else undef)), .val ((bif (((far i) || (x.f0 == 4)) == true) then (.map (some gm)) else undef)), .val ((bif (((far i) || (x.f0 == 4)) == true) then (.pointer (some ⟨gx, 6, none⟩)) else undef)), .val ((bif (((far i) || (x.f0 == 4)) == true) then (.int .i64 x.f2) else undef)), .val ((bif (((far i) || (x.f0 == 4)) == true) then (.int .i64 ((at_ l x.f2) : Int)) else undef)), .val ((bif (((far i) || (x.f0 == 4)) == true) then (.pointer (some (adb.add (at_ l x.f2)))) else undef)), .val ((bif (((far i) || (x.f0 == 4)) == true) then (.int .i64 (beg l far (at_ l x.f2))) else undef)), .val ((bif (((far i) || (x.f0 == 4)) == true) then (.int .i64 (beg l far i + 4)) else undef)), .val ((bif (((far i) || (x.f0 == 4)) == true) then (.int .i64 (beg l far (at_ l x.f2) - (beg l far i + 4))) else undef)), .val ((bif (((far i) || (x.f0 == 4)) == true) then (.bool true) else undef)), .val ((bif (((far i) || (x.f0 == 4)) == true) then (.bool (!true)) else undef)), .val (.bool (((far i) || (x.f0 == 4)) && (!true)))] (fun W => Below w.heap.size w W ∧ W.heap[gx]? = some (.cells (it x) 34 (0, 0))) kr hG ?_ ?_
   · intro vs W hG b hb
     have e1 : b.eval (.tmp 1) = .map (some gm) := eo_ hb
     have e2 : b.eval (.tmp 2) = .slice (some adf) l.length cf := eo_ hb
     have e3 : b.eval (.tmp 3) = .slice (some adb) (l.length + 1) cb := eo_ hb
     have e9 : b.eval (.tmp 9) = .int .i64 (i : Int) := eo_ hb
     have e10 : b.eval (.tmp 10) = .pointer (some ⟨gx, 0, none⟩) := eo_ hb
     have e11 : b.eval (.tmp 11) = .int .i64 (beg l far i + 4) := eo_ hb
     have i29 := ei_ 29 hb 0
     have i30 := ei_ 30 hb 1
     have i31 := ei_ 31 hb 2
     have i32 := ei_ 32 hb 3
     have i33 := ei_ 33 hb 4
     have i34 := ei_ 34 hb 5
     have i35 := ei_ 35 hb 6
     have i36 := ei_ 36 hb 7
     have i37 := ei_ 37 hb 8
     have i38 := ei_ 38 hb 9
     have i39 := ei_ 39 hb 10
     have i40 := ei_ 40 hb 11
     have i41 := ei_ 41 hb 12
     have i42 := ei_ 42 hb 13
     have i43 := ei_ 43 hb 14
     have i44 := ei_ 44 hb 15
     have i45 := ei_ 45 hb 16
     have i46 := ei_ 46 hb 17
     have i47 := ei_ 47 hb 18
     have i48 := ei_ 48 hb 19
     have i49 := ei_ 49 hb 20
     clear hb
     refine And.intro ?_ (And.intro ?_ (And.intro ?_ (And.intro ?_ (And.intro ?_ (And.intro ?_ (And.intro ?_ (And.intro ?_ (And.intro ?_ (And.intro ?_ (And.intro ?_ (And.intro ?_ (And.intro ?_ (And.intro ?_ (And.intro ?_ (And.intro ?_ (And.intro ?_ (And.intro ?_ (And.intro ?_ (And.intro ?_ (And.intro ?_ (And.intro ?_ (trivial))))))))))))))))))))))
     · refine g0 fun hp K hK => ?_; exact st_move (.inl rfl) (e2) (hK _ _ rfl hG (Below.refl _ _))
     · refine g0 fun hp K hK => ?_; exact st_move (.inl rfl) (e9) (hK _ _ rfl hG (Below.refl _ _))
     · refine g0 fun hp K hK => ?_; have e29 : b.eval (.tmp 29) = _ := i29.trans (hp 0 kr); have e30 : b.eval (.tmp 30) = _ := i30.trans (hp 1 kr); exact st_index rfl (e29) (e30) (ix26 hil _) (hK _ _ rfl hG (Below.refl _ _))
     · refine g0 fun hp K hK => ?_; have e31 : b.eval (.tmp 31) = _ := i31.trans (hp 2 kr); exact st_load rfl (e31) (by obtain ⟨a', ha', hl'⟩ := ld_far (Kd.C_below HF.out hG.1) hil; rw [Option.some.inj ha']; exact ld_cell 4 kr hl') (hK _ _ rfl hG (Below.refl _ _))
     · refine g0 fun hp K hK => ?_; have e32 : b.eval (.tmp 32) = _ := i32.trans (hp 3 kr); exact st_move (.inl rfl) (e32) (hK _ _ rfl hG (Below.refl _ _))
     · intro hp K hK; refine g_is (j := 4) (want := false) (c := far i) rfl (yielded_of (d := 33) rfl rfl (i33.trans (hp 4 kr))) (fun hb => ?_) (fun hb => hK _ _ (cond_no hb) hG (Below.refl _ _)); exact st_field rfl (e10) kr (hK _ _ (cond_yes hb).symm hG (Below.refl _ _))
     · intro hp K hK; refine g_is (j := 4) (want := false) (c := far i) rfl (yielded_of (d := 33) rfl rfl (i33.trans (hp 4 kr))) (fun hb => ?_) (fun hb => hK _ _ (cond_no hb) hG (Below.refl _ _)); have e34 : b.eval (.tmp 34) = _ := i34.trans (hp 5 kr); replace e34 := e34.trans (cond_yes hb); exact st_load rfl (e34) (ld_cell 3 kr ((blk_cell hG.2 0).trans rfl)) (hK _ _ (cond_yes hb).symm hG (Below.refl _ _))
     · intro hp K hK; refine g_is (j := 4) (want := false) (c := far i) rfl (yielded_of (d := 33) rfl rfl (i33.trans (hp 4 kr))) (fun hb => ?_) (fun hb => hK _ _ (cond_no hb) hG (Below.refl _ _)); have e35 : b.eval (.tmp 35) = _ := i35.trans (hp 6 kr); replace e35 := e35.trans (cond_yes hb); exact st_bin rfl (e35) (eval_const _) b_eql (hK _ _ (cond_yes hb).symm hG (Below.refl _ _))
     · refine g0 fun hp K hK => ?_; have e33 : b.eval (.tmp 33) = _ := i33.trans (hp 4 kr); have e36 : b.eval (.tmp 36) = _ := i36.trans (hp 7 kr); exact st_pick rfl (e33) (by first | (rw [e36]; exact pick_or) | (rw [show b.eval (Operand.tmp 36) = _ from eval_const _]; exact pick_or)) (hK _ _ rfl hG (Below.refl _ _))
     · refine g0 fun hp K hK => ?_; have e37 : b.eval (.tmp 37) = _ := i37.trans (hp 8 kr); exact st_move (.inl rfl) (e37) (hK _ _ rfl hG (Below.refl _ _))
     · intro hp K hK; refine g_is (j := 9) (want := true) (c := (far i) || (x.f0 == 4)) rfl (yielded_of (d := 38) rfl rfl (i38.trans (hp 9 kr))) (fun hb => ?_) (fun hb => hK _ _ (cond_no hb) hG (Below.refl _ _)); exact st_move (.inl rfl) (e3) (hK _ _ (cond_yes hb).symm hG (Below.refl _ _))
     · intro hp K hK; refine g_is (j := 9) (want := true) (c := (far i) || (x.f0 == 4)) rfl (yielded_of (d := 38) rfl rfl (i38.trans (hp 9 kr))) (fun hb => ?_) (fun hb => hK _ _ (cond_no hb) hG (Below.refl _ _)); exact st_move (.inl rfl) (e1) (hK _ _ (cond_yes hb).symm hG (Below.refl _ _))
     · intro hp K hK; refine g_is (j := 9) (want := true) (c := (far i) || (x.f0 == 4)) rfl (yielded_of (d := 38) rfl rfl (i38.trans (hp 9 kr))) (fun hb => ?_) (fun hb => hK _ _ (cond_no hb) hG (Below.refl _ _)); exact st_field rfl (e10) kr (hK _ _ (cond_yes hb).symm hG (Below.refl _ _))
     · intro hp K hK; refine g_is (j := 9) (want := true) (c := (far i) || (x.f0 == 4)) rfl (yielded_of (d := 38) rfl rfl (i38.trans (hp 9 kr))) (fun hb => ?_) (fun hb => hK _ _ (cond_no hb) hG (Below.refl _ _)); have e41 : b.eval (.tmp 41) = _ := i41.trans (hp 12 kr); replace e41 := e41.trans (cond_yes hb); exact st_load rfl (e41) (ld_cell 3 kr ((blk_cell hG.2 6).trans rfl)) (hK _ _ (cond_yes hb).symm hG (Below.refl _ _))
     · intro hp K hK; refine g_is (j := 9) (want := true) (c := (far i) || (x.f0 == 4)) rfl (yielded_of (d := 38) rfl rfl (i38.trans (hp 9 kr))) (fun hb => ?_) (fun hb => hK _ _ (cond_no hb) hG (Below.refl _ _)); have e40 : b.eval (.tmp 40) = _ := i40.trans (hp 11 kr); replace e40 := e40.trans (cond_yes hb); have e42 : b.eval (.tmp 42) = _ := i42.trans (hp 13 kr); replace e42 := e42.trans (cond_yes hb); exact st_lookup rfl (e40) (e42) (look_at (mapIs_below HM.out hG.1) (HI.out _ hxm)) (hK _ _ (cond_yes hb).symm hG (Below.refl _ _))
     · intro hp K hK; refine g_is (j := 9) (want := true) (c := (far i) || (x.f0 == 4)) rfl (yielded_of (d := 38) rfl rfl (i38.trans (hp 9 kr))) (fun hb => ?_) (fun hb => hK _ _ (cond_no hb) hG (Below.refl _ _)); have e39 : b.eval (.tmp 39) = _ := i39.trans (hp 10 kr); replace e39 := e39.trans (cond_yes hb); have e43 : b.eval (.tmp 43) = _ := i43.trans (hp 14 kr); replace e43 := e43.trans (cond_yes hb); exact st_index rfl (e39) (e43) (ix25n hal _) (hK _ _ (cond_yes hb).symm hG (Below.refl _ _))
     · intro hp K hK; refine g_is (j := 9) (want := true) (c := (far i) || (x.f0 == 4)) rfl (yielded_of (d := 38) rfl rfl (i38.trans (hp 9 kr))) (fun hb => ?_) (fun hb => hK _ _ (cond_no hb) hG (Below.refl _ _)); have e44 : b.eval (.tmp 44) = _ := i44.trans (hp 15 kr); replace e44 := e44.trans (cond_yes hb); exact st_load rfl (e44) (by obtain ⟨a', ha', hl'⟩ := ld_beg (Kd.C_below HBg.out hG.1) hal; rw [Option.some.inj ha']; exact ld_cell 3 kr hl') (hK _ _ (cond_yes hb).symm hG (Below.refl _ _))
     · intro hp K hK; refine g_is (j := 9) (want := true) (c := (far i) || (x.f0 == 4)) rfl (yielded_of (d := 38) rfl rfl (i38.trans (hp 9 kr))) (fun hb => ?_) (fun hb => hK _ _ (cond_no hb) hG (Below.refl _ _)); exact st_move (.inl rfl) (e11) (hK _ _ (cond_yes hb).symm hG (Below.refl _ _))
     · intro hp K hK; refine g_is (j := 9) (want := true) (c := (far i) || (x.f0 == 4)) rfl (yielded_of (d := 38) rfl rfl (i38.trans (hp 9 kr))) (fun hb => ?_) (fun hb => hK _ _ (cond_no hb) hG (Below.refl _ _)); have e45 : b.eval (.tmp 45) = _ := i45.trans (hp 16 kr); replace e45 := e45.trans (cond_yes hb); have e46 : b.eval (.tmp 46) = _ := i46.trans (hp 17 kr); replace e46 := e46.trans (cond_yes hb); exact st_bin rfl (e45) (e46) (b_sub (IntWalk.i64_in _ (m_55))) (hK _ _ (cond_yes hb).symm hG (Below.refl _ _))
     · intro hp K hK; refine g_is (j := 9) (want := true) (c := (far i) || (x.f0 == 4)) rfl (yielded_of (d := 38) rfl rfl (i38.trans (hp 9 kr))) (fun hb => ?_) (fun hb => hK _ _ (cond_no hb) hG (Below.refl _ _)); have e47 : b.eval (.tmp 47) = _ := i47.trans (hp 18 kr); replace e47 := e47.trans (cond_yes hb); refine st_call rfl (m_60) kr ?_; refine (relax_within.calls (beg l far (at_ l x.f2) - (beg l far i + 4)) (-1048576) 1048574 true _ (by rw [within_some, decide_eq_true (m_55)])).mono ?_; rintro e w' ⟨rfl, hd⟩; have hb' := below_drawn hd; exact ⟨_, rfl, hK _ _ (cond_yes hb).symm ⟨below_step hG.1 hb', blk_below hG.2 hb'⟩ hb'⟩
     · intro hp K hK; refine g_is (j := 9) (want := true) (c := (far i) || (x.f0 == 4)) rfl (yielded_of (d := 38) rfl rfl (i38.trans (hp 9 kr))) (fun hb => ?_) (fun hb => hK _ _ (cond_no hb) hG (Below.refl _ _)); have e48 : b.eval (.tmp 48) = _ := i48.trans (hp 19 kr); replace e48 := e48.trans (cond_yes hb); exact st_un rfl (e48) u_not (hK _ _ (cond_yes hb).symm hG (Below.refl _ _))
     · refine g0 fun hp K hK => ?_; have e38 : b.eval (.tmp 38) = _ := i38.trans (hp 9 kr); have e49 : b.eval (.tmp 49) = _ := i49.trans (hp 20 kr); exact st_pick rfl (e38) (by first | (rw [e49]; exact pick_and) | (rw [show b.eval (Operand.tmp 49) = _ from eval_const _]; exact pick_and)) (hK _ _ rfl hG (Below.refl _ _))
   intro vs W hG hp b hb
   have q21 : vs 21 = _ := hp 21 kd
   clear hp
   simp only [fillS, Nat.reduceAdd, Nat.zero_add, q21] at hb
   subst hb
   refine wpList_nil ?_
   clear q21
   refine HK11.out _ _ ?_; clear HK11
   exact lfxRl60
 apply wp_skip
 simp only [Exit.then]
 refine HK9.out _ _ ?_; clear HK9
 refine wp_seq_h fun K12 HK12 => ?_
 refine wp_listed (R := fun W W' => Below W.heap.size W W') 22 [.val (.slice (some adf) l.length cf), .val (.int .i64 (i : Int)), .val (.pointer (some (adf.add i))), .val (.bool (far i)), .val (.bool (far i)), .val ((bif ((far i) == false) then (.pointer (some ⟨gx, 0, none⟩)) else undef)), .val ((bif ((far i) == false) then (.int .i64 x.f0) else undef)), .val ((bif ((far i) == false) then (.bool (x.f0 == 4)) else undef)), .val (.bool ((far i) || (x.f0 == 4))), .val (.bool ((far i) || (x.f0 == 4))), .val ((bif (((far i) || (x.f0 == 4)) == true) then (.slice (some adb) (l.length + 1) cb) else undef)), .val ((bif (((far i) || (x.f0 == 4)) == true) then (.map (some gm)) else undef)), .val ((bif (((far i) || (x.f0 == 4)) == true) then (.pointer (some ⟨gx, 6, none⟩)) else undef)), .val ((bif (((far i) || (x.f0 == 4)) == true) then (.int .i64 x.f2) else undef)), .val ((bif (((far i) || (x.f0 == 4)) == true) then (.int .i64 ((at_ l x.f2) : Int)) else undef)), .val ((bif (((far i) || (x.f0 == 4)) == true) then (.pointer (some (adb.add (at_ l x.f2)))) else undef)), .val ((bif (((far i) || (x.f0 == 4)) == true) then (.int .i64 (beg l far (at_ l x.f2))) else undef)), .val ((bif (((far i) || (x.f0 == 4)) == true) then (.int .i64 (beg l far i)) else undef)), .val ((bif (((far i) || (x.f0 == 4)) == true) then (.int .i64 (beg l far (at_ l x.f2) - (beg l far i))) else undef)), .val ((bif (((far i) || (x.f0 == 4)) == true) then (.bool true) else undef)), .val ((bif (((far i) || (x.f0 == 4)) == true) then (.bool (!true)) else undef)), .val (.bool (((far i) || (x.f0 == 4)) && (!true)))] (fun W => Below w.heap.size w W ∧ W.heap[gx]? = some (.cells (it x) 34 (0, 0))) kr hG ?_ ?_
 · intro vs W hG b hb
   have e1 : b.eval (.tmp 1) = .map (some gm) := eo_ hb
   have e2 : b.eval (.tmp 2) = .slice (some adf) l.length cf := eo_ hb
   have e3 : b.eval (.tmp 3) = .slice (some adb) (l.length + 1) cb := eo_ hb
   have e9 : b.eval (.tmp 9) = .int .i64 (i : Int) := eo_ hb
   have e10 : b.eval (.tmp 10) = .pointer (some ⟨gx, 0, none⟩) := eo_ hb
   have e11 : b.eval (.tmp 11) = .int .i64 (beg l far i) := eo_ hb
   have i29 := ei_ 29 hb 0
   have i30 := ei_ 30 hb 1
   have i31 := ei_ 31 hb 2
   have i32 := ei_ 32 hb 3
   have i33 := ei_ 33 hb 4
   have i34 := ei_ 34 hb 5
   have i35 := ei_ 35 hb 6
   have i36 := ei_ 36 hb 7
   have i37 := ei_ 37 hb 8
   have i38 := ei_ 38 hb 9
   have i39 := ei_ 39 hb 10
   have i40 := ei_ 40 hb 11
   have i41 := ei_ 41 hb 12
   have i42 := ei_ 42 hb 13
   have i43 := ei_ 43 hb 14
   have i44 := ei_ 44 hb 15
   have i45 := ei_ 45 hb 16
   have i46 := ei_ 46 hb 17
   have i47 := ei_ 47 hb 18
   have i48 := ei_ 48 hb 19
   have i49 := ei_ 49 hb 20
   clear hb
   refine And.intro ?_ (And.intro ?_ (And.intro ?_ (And.intro ?_ (And.intro ?_ (And.intro ?_ (And.intro ?_ (And.intro ?_ (And.intro ?_ (And.intro ?_ (And.intro ?_ (And.intro ?_ (And.intro ?_ (And.intro ?_ (And.intro ?_ (And.intro ?_ (And.intro ?_ (And.intro ?_ (And.intro ?_ (And.intro ?_ (And.intro ?_ (And.intro ?_ (trivial))))))))))))))))))))))
   · refine g0 fun hp K hK => ?_; exact st_move (.inl rfl) (e2) (hK _ _ rfl hG (Below.refl _ _))
   · refine g0 fun hp K hK => ?_; exact st_move (.inl rfl) (e9) (hK _ _ rfl hG (Below.refl _ _))
   · refine g0 fun hp K hK => ?_; have e29 : b.eval (.tmp 29) = _ := i29.trans (hp 0 kr); have e30 : b.eval (.tmp 30) = _ := i30.trans (hp 1 kr); exact st_index rfl (e29) (e30) (ix26 hil _) (hK _ _ rfl hG (Below.refl _ _))
   · refine g0 fun hp K hK => ?_; have e31 : b.eval (.tmp 31) = _ := i31.trans (hp 2 kr); exact st_load rfl (e31) (by obtain ⟨a', ha', hl'⟩ := ld_far (Kd.C_below HF.out hG.1) hil; rw [Option.some.inj ha']; exact ld_cell 4 kr hl') (hK _ _ rfl hG (Below.refl _ _))
   · refine g0 fun hp K hK => ?_; have e32 : b.eval (.tmp 32) = _ := i32.trans (hp 3 kr); exact st_move (.inl rfl) (e32) (hK _ _ rfl hG (Below.refl _ _))
   · intro hp K hK; refine g_is (j := 4) (want := false) (c := far i) rfl (yielded_of (d := 33) rfl rfl (i33.trans (hp 4 kr))) (fun hb => ?_) (fun hb => hK _ _ (cond_no hb) hG (Below.refl _ _)); exact st_field rfl (e10) kr (hK _ _ (cond_yes hb).symm hG (Below.refl _ _))
   · intro hp K hK; refine g_is (j := 4) (want := false) (c := far i) rfl (yielded_of (d := 33) rfl rfl (i33.trans (hp 4 kr))) (fun hb => ?_) (fun hb => hK _ _ (cond_no hb) hG (Below.refl _ _)); have e34 : b.eval (.tmp 34) = _ := i34.trans (hp 5 kr); replace e34 := e34.trans (cond_yes hb); exact st_load rfl (e34) (ld_cell 3 kr ((blk_cell hG.2 0).trans rfl)) (hK _ _ (cond_yes hb).symm hG (Below.refl _ _))
   · intro hp K hK; refine g_is (j := 4) (want := false) (c := far i) rfl (yielded_of (d := 33) rfl rfl (i33.trans (hp 4 kr))) (fun hb => ?_) (fun hb => hK _ _ (cond_no hb) hG (Below.refl _ _)); have e35 : b.eval (.tmp 35) = _ := i35.trans (hp 6 kr); replace e35 := e35.trans (cond_yes hb); exact st_bin rfl (e35) (eval_const _) b_eql (hK _ _ (cond_yes hb).symm hG (Below.refl _ _))
   · refine g0 fun hp K hK => ?_; have e33 : b.eval (.tmp 33) = _ := i33.trans (hp 4 kr); have e36 : b.eval (.tmp 36) = _ := i36.trans (hp 7 kr); exact st_pick rfl (e33) (by first | (rw [e36]; exact pick_or) | (rw [show b.eval (Operand.tmp 36) = _ from eval_const _]; exact pick_or)) (hK _ _ rfl hG (Below.refl _ _))
   · refine g0 fun hp K hK => ?_; have e37 : b.eval (.tmp 37) = _ := i37.trans (hp 8 kr); exact st_move (.inl rfl) (e37) (hK _ _ rfl hG (Below.refl _ _))
   · intro hp K hK; refine g_is (j := 9) (want := true) (c := (far i) || (x.f0 == 4)) rfl (yielded_of (d := 38) rfl rfl (i38.trans (hp 9 kr))) (fun hb => ?_) (fun hb => hK _ _ (cond_no hb) hG (Below.refl _ _)); exact st_move (.inl rfl) (e3) (hK _ _ (cond_yes hb).symm hG (Below.refl _ _))
   · intro hp K hK; refine g_is (j := 9) (want := true) (c := (far i) || (x.f0 == 4)) rfl (yielded_of (d := 38) rfl rfl (i38.trans (hp 9 kr))) (fun hb => ?_) (fun hb => hK _ _ (cond_no hb) hG (Below.refl _ _)); exact st_move (.inl rfl) (e1) (hK _ _ (cond_yes hb).symm hG (Below.refl _ _))
   · intro hp K hK; refine g_is (j := 9) (want := true) (c := (far i) || (x.f0 == 4)) rfl (yielded_of (d := 38) rfl rfl (i38.trans (hp 9 kr))) (fun hb => ?_) (fun hb => hK _ _ (cond_no hb) hG (Below.refl _ _)); exact st_field rfl (e10) kr (hK _ _ (cond_yes hb).symm hG (Below.refl _ _))
   · intro hp K hK; refine g_is (j := 9) (want := true) (c := (far i) || (x.f0 == 4)) rfl (yielded_of (d := 38) rfl rfl (i38.trans (hp 9 kr))) (fun hb => ?_) (fun hb => hK _ _ (cond_no hb) hG (Below.refl _ _)); have e41 : b.eval (.tmp 41) = _ := i41.trans (hp 12 kr); replace e41 := e41.trans (cond_yes hb); exact st_load rfl (e41) (ld_cell 3 kr ((blk_cell hG.2 6).trans rfl)) (hK _ _ (cond_yes hb).symm hG (Below.refl _ _))
   · intro hp K hK; refine g_is (j := 9) (want := true) (c := (far i) || (x.f0 == 4)) rfl (yielded_of (d := 38) rfl rfl (i38.trans (hp 9 kr))) (fun hb => ?_) (fun hb => hK _ _ (cond_no hb) hG (Below.refl _ _)); have e40 : b.eval (.tmp 40) = _ := i40.trans (hp 11 kr); replace e40 := e40.trans (cond_yes hb); have e42 : b.eval (.tmp 42) = _ := i42.trans (hp 13 kr); replace e42 := e42.trans (cond_yes hb); exact st_lookup rfl (e40) (e42) (look_at (mapIs_below HM.out hG.1) (HI.out _ hxm)) (hK _ _ (cond_yes hb).symm hG (Below.refl _ _))
   · intro hp K hK; refine g_is (j := 9) (want := true) (c := (far i) || (x.f0 == 4)) rfl (yielded_of (d := 38) rfl rfl (i38.trans (hp 9 kr))) (fun hb => ?_) (fun hb => hK _ _ (cond_no hb) hG (Below.refl _ _)); have e39 : b.eval (.tmp 39) = _ := i39.trans (hp 10 kr); replace e39 := e39.trans (cond_yes hb); have e43 : b.eval (.tmp 43) = _ := i43.trans (hp 14 kr); replace e43 := e43.trans (cond_yes hb); exact st_index rfl (e39) (e43) (ix25n hal _) (hK _ _ (cond_yes hb).symm hG (Below.refl _ _))
   · intro hp K hK; refine g_is (j := 9) (want := true) (c := (far i) || (x.f0 == 4)) rfl (yielded_of (d := 38) rfl rfl (i38.trans (hp 9 kr))) (fun hb => ?_) (fun hb => hK _ _ (cond_no hb) hG (Below.refl _ _)); have e44 : b.eval (.tmp 44) = _ := i44.trans (hp 15 kr); replace e44 := e44.trans (cond_yes hb); exact st_load rfl (e44) (by obtain ⟨a', ha', hl'⟩ := ld_beg (Kd.C_below HBg.out hG.1) hal; rw [Option.some.inj ha']; exact ld_cell 3 kr hl') (hK _ _ (cond_yes hb).symm hG (Below.refl _ _))
   · intro hp K hK; refine g_is (j := 9) (want := true) (c := (far i) || (x.f0 == 4)) rfl (yielded_of (d := 38) rfl rfl (i38.trans (hp 9 kr))) (fun hb => ?_) (fun hb => hK _ _ (cond_no hb) hG (Below.refl _ _)); exact st_move (.inl rfl) (e11) (hK _ _ (cond_yes hb).symm hG (Below.refl _ _))
   · intro hp K hK; refine g_is (j := 9) (want := true) (c := (far i) || (x.f0 == 4)) rfl (yielded_of (d := 38) rfl rfl (i38.trans (hp 9 kr))) (fun hb => ?_) (fun hb => hK _ _ (cond_no hb) hG (Below.refl _ _)); have e45 : b.eval (.tmp 45) = _ := i45.trans (hp 16 kr); replace e45 := e45.trans (cond_yes hb); have e46 : b.eval (.tmp 46) = _ := i46.trans (hp 17 kr); replace e46 := e46.trans (cond_yes hb); exact st_bin rfl (e45) (e46) (b_sub (IntWalk.i64_in _ (m_55))) (hK _ _ (cond_yes hb).symm hG (Below.refl _ _))
   · intro hp K hK; refine g_is (j := 9) (want := true) (c := (far i) || (x.f0 == 4)) rfl (yielded_of (d := 38) rfl rfl (i38.trans (hp 9 kr))) (fun hb => ?_) (fun hb => hK _ _ (cond_no hb) hG (Below.refl _ _)); have e47 : b.eval (.tmp 47) = _ := i47.trans (hp 18 kr); replace e47 := e47.trans (cond_yes hb); refine st_call rfl (m_60) kr ?_; refine (relax_within.calls (beg l far (at_ l x.f2) - (beg l far i)) (-1048576) 1048574 true _ (by rw [within_some, decide_eq_true (m_55)])).mono ?_; rintro e w' ⟨rfl, hd⟩; have hb' := below_drawn hd; exact ⟨_, rfl, hK _ _ (cond_yes hb).symm ⟨below_step hG.1 hb', blk_below hG.2 hb'⟩ hb'⟩
   · intro hp K hK; refine g_is (j := 9) (want := true) (c := (far i) || (x.f0 == 4)) rfl (yielded_of (d := 38) rfl rfl (i38.trans (hp 9 kr))) (fun hb => ?_) (fun hb => hK _ _ (cond_no hb) hG (Below.refl _ _)); have e48 : b.eval (.tmp 48) = _ := i48.trans (hp 19 kr); replace e48 := e48.trans (cond_yes hb); exact st_un rfl (e48) u_not (hK _ _ (cond_yes hb).symm hG (Below.refl _ _))
   · refine g0 fun hp K hK => ?_; have e38 : b.eval (.tmp 38) = _ := i38.trans (hp 9 kr); have e49 : b.eval (.tmp 49) = _ := i49.trans (hp 20 kr); exact st_pick rfl (e38) (by first | (rw [e49]; exact pick_and) | (rw [show b.eval (Operand.tmp 49) = _ from eval_const _]; exact pick_and)) (hK _ _ rfl hG (Below.refl _ _))
 intro vs W hG hp b hb
 have q21 : vs 21 = _ := hp 21 kd
 clear hp
 simp only [fillS, Nat.reduceAdd, Nat.zero_add, q21] at hb
 subst hb
 refine wpList_nil ?_
 clear q21
 refine HK12.out _ _ ?_; clear HK12
 exact lfxRl60
end Go.Proofs.Ytihecimbhhlhaaa.Rl
