/- Whether all jumps reach. -/
import Derived.Test.YtihecimbhhlhaaaRl5
import Derived.Test.YtihecimbhhlhaaaRsG6
import Derived.Test.YtihecimbhhlhaaaRsMc
namespace Go.Proofs.Ytihecimbhhlhaaa.Rl
open Go.RowKit Dr PRs
open Go.Proofs.YtihecimbhhlhaaaW.PrintWords (Kd Kd.C Kd.R Kd.C_below Kd.C_get Kd.R_below Kd.R_reads Kd.R_reads' Kd.R_types Kd.R_step Kd.R_alloc Kd.R_drew Kd.R_lower add_field)
set_option linter.unusedVariables false
set_option linter.unusedSimpArgs false
set_option maxRecDepth 100000
theorem below_drawn {w w' : World} (h : Go.Proofs.YtihecimbhhlhaaaW.PrintWords.Drawn0 w w') : Below w.heap.size w w' := by
 obtain ⟨m, rfl⟩ := h
 exact Go.Proofs.YtihecimbhhlhaaaW.PrintWords.pw_below_drewN br m
theorem ix25n {ad : Addr} {n c i : Nat} (h : i < n) (W : World) : (Instr.indexAt 25 (.slice (some ad) n c) (.int .i64 (i : Int))).run Try.prog W = .ok (.pointer (some (ad.add i))) W := by
 have := ix25 (ad := ad) (n := n) (c := c) (j := (i : Int)) (by omega) (by omega) W
 rwa [Int.toNat_natCast] at this
theorem ld_beg {W : World} {A : Option Addr} {l : List S34} {far : Nat → Bool} {n i : Nat} (h : Kd.C (Kd.int .i64) W A n (begs l far n)) (hi : i < n) : ∃ ad, A = some ad ∧ W.cell? (ad.add i) = some (.int .i64 (beg l far i)) := by
 obtain ⟨ad, c, e, _, hK, hc⟩ := Kd.C_get h 0 (i : Int) (by omega) (by omega)
 rw [Int.toNat_natCast] at hK hc
 have hx : (begs l far n).getD i 0 = beg l far i := by simp [begs, List.getD, hi]
 rw [hx] at hK
 obtain rfl : c = [.int .i64 (beg l far i)] := hK
 refine ⟨ad, e, ?_⟩
 have := hc 0 _ rfl
 simpa [Kd.int, Kd.scalar] using this
/-- Where a key's label stands; 0: nowhere. -/
def at_ (l : List S34) (key : Int) : Nat := ((lab l l.length key).getD 0).toNat
theorem at_lt (l : List S34) (key : Int) : at_ l key < l.length + 1 := by
 unfold at_
 cases h : lab l l.length key with
 | none => simp
 | some j =>
  obtain ⟨i, rfl, h1, -⟩ := lab_in h
  simp
  omega
theorem at_is (l : List S34) (key : Int) : (lab l l.length key).getD 0 = (at_ l key : Int) := by
 unfold at_
 cases h : lab l l.length key with
 | none => simp
 | some j =>
  obtain ⟨i, rfl, h1, -⟩ := lab_in h
  simp
theorem within_some (a b c : Int) : relax_within.f a b c = some (decide (b ≤ a ∧ a ≤ c)) := by
 unfold relax_within.f
 by_cases h : a ≥ b
 · rw [if_pos h]; simp [h]
 · rw [if_neg h, decide_eq_false (by omega)]
theorem look_at {W : World} {b : Nat} {l : List S34} (h : mapIs W b l.length (lab l l.length)) {key : Int} (hk : In64 key) : (Instr.lookup 49 (.map (some b)) (.int .i64 key) false).run Try.prog W = .ok (.int .i64 (at_ l key : Int)) W := by
 rw [← at_is]
 exact look h hk
theorem lfxRl60 {P : Prop} (h : P := by
 have hc : (((far i) || (x.f0 == 4)) && (!true)) = false := by simp
 rw [hc]
 clear hc
 apply wp_cond_false rfl
 apply wp_skip
 simp only [Exit.inBlock, Exit.then, ↓reduceIte]
 refine HK6.out _ _ ?_; clear HK6
 have HG := Lib.hid hG.1
 have Hil := Lib.hid hil
 clear hG hil hi hbi hba hal
 go_wp2
 exact ⟨loop_frame kr, ⟨i + 1, m_56, Hil.out, HG.out⟩, Msr.lt (by have := Hil.out; omega)⟩) : P := h
set_option maxHeartbeats 8000000 in
theorem jumps_is (A Af Ab : Option Addr) (c cf cb gm : Nat) (l : List S34) (far : Nat → Bool) (w : World) (hl : l.length ≤ 4000) (hI : ∀ x ∈ l, In64 x.f2) (hC : Kd.C k34 w A l.length l) (hF : Kd.C Kd.bool w Af l.length (farL far l.length)) (hB : Kd.C (Kd.int .i64) w Ab (l.length + 1) (begs l far (l.length + 1))) (hM : mapIs w gm l.length (lab l l.length)) :
 Calls Try.prog 20 #[.slice A l.length c, .map (some gm), .slice Af l.length cf, .slice Ab (l.length + 1) cb] w fun e w' => e = .returned (.bool true) ∧ Below w.heap.size w w' := by
 have HL := Lib.hid hl
 have HI := Lib.hid hI
 have HC := Lib.hid hC
 have HF := Lib.hid hF
 have HBg := Lib.hid hB
 have HM := Lib.hid hM
 clear hl hI hC hF hB hM
 go_enter Try.func20, Try.ntmps20
 refine wp_seq_h fun K1 HK1 => ?_
 refine wp_listed (R := fun W W' => Below W.heap.size W W') 1 [.val (.bool false)] (fun W => Below w.heap.size w W) kr br ?_ ?_
 · intro vs W hG b hb
   refine ai ?_ (trivial)
   · exact gv rfl hG fun hp K hK => st_move (.inr rfl) (eval_const _) hK
 intro vs W hG hp b hb
 have q0 : vs 0 = _ := hp 0 kd
 clear hp
 simp only [fillS, Nat.reduceAdd, Nat.zero_add, q0] at hb
 subst hb
 refine wpList_nil ?_
 clear q0
 refine HK1.out _ _ ?_; clear HK1
 refine wp_seq_h fun K2 HK2 => ?_
 refine wp_seq_h fun K3 HK3 => ?_
 refine wp_listed (R := fun W W' => Below W.heap.size W W') 3 [.val (.slice A l.length c), .val (.int .i64 (l.length : Int)), .val (.int .i64 0)] (fun W => Below w.heap.size w W) kr hG ?_ ?_
 · intro vs W hG b hb
   have e0 : b.eval (.tmp 0) = .slice A l.length c := eo_ hb
   refine ai ?_ (ai ?_ (ai ?_ (trivial)))
   · exact mI hG fun hp => e0
   · refine g0 fun hp K hK => ?_; have e12 : b.eval (.tmp 12) = _ := ev 12 hb 0 (hp 0 kr); exact st_builtin rfl (m_46) (fun cs => b_len 23 (by decide) cs _) (hK _ _ rfl hG br)
   · exact mI hG fun hp => eval_const _
 intro vs W hG hp b hb
 have q0 : vs 0 = _ := hp 0 kd
 have q1 : vs 1 = _ := hp 1 kd
 have q2 : vs 2 = _ := hp 2 kd
 clear hp
 simp only [fillS, Nat.reduceAdd, Nat.zero_add, q0, q1, q2] at hb
 subst hb
 refine wpList_nil ?_
 clear q0 q1 q2
 refine HK3.out _ _ ?_; clear HK3
 apply wp_block
 refine wp_loopS [9, 10, 11, 14, 15, 16, 17, 18, 19, 20, 21, 22, 23, 24, 25, 26, 27, 28, 29, 30, 31, 32, 33, 34, 35, 36, 37, 38, 39, 40, 41, 42, 43, 44, 45, 46, 47, 48, 49, 50, 51] (fun sl W => ∃ i : Nat, sl 14 = .int .i64 (i : Int) ∧ i ≤ l.length ∧ Below w.heap.size w W) (fun sl W => Msr (l.length : Int) (sl 14)) ⟨0, rfl, Nat.zero_le _, hG⟩ ?_
 clear hG
 intro vs W b hb hI
 obtain ⟨i, hsl, hi, hG⟩ := hI
 simp only [setSlots, Act.put, List.setIfInBounds_toArray, List.set_cons_succ, List.set_cons_zero] at hb
 subst hb
 replace hsl : vs 14 = .int .i64 (i : Int) := hsl
 rw [hsl]
 clear hsl
 refine wp_seq_h fun K4 HK4 => ?_
 refine wp_listed (R := fun W W' => Below W.heap.size W W') 1 [.val (.bool (decide ((i : Int) < (l.length : Int))))] (fun W => Below w.heap.size w W) kr hG ?_ ?_
 · intro vs W hG b hb
   have e13 : b.eval (.tmp 13) = .int .i64 (l.length : Int) := eo_ hb
   have e14 : b.eval (.tmp 14) = .int .i64 (i : Int) := eo_ hb
   refine ai ?_ (trivial)
   · exact gv rfl hG fun hp K hK => st_bin rfl (e14) (e13) b_lss hK
 intro vs W hG hp b hb
 have q0 : vs 0 = _ := hp 0 kd
 clear hp
 simp only [fillS, Nat.reduceAdd, Nat.zero_add, q0] at hb
 subst hb
 refine wpList_nil ?_
 clear q0
 refine HK4.out _ _ ?_; clear HK4
 refine wp_seq_h fun K5 HK5 => ?_
 refine wp_cond_split rfl (fun hlt => ?_) (fun hlt => ?_)
 rotate_left
 · clear hlt
   apply wp_exit
   simp only [Exit.inBlock, Exit.then, ↓reduceIte]
   refine HK2.out _ _ ?_; clear HK2
   have HG := Lib.hid hG
   clear hG
   go_wp2
   go_ret
   exact ⟨rfl, HG.out⟩
 have hil : i < l.length := by have := of_decide_eq_true hlt; omega
 clear hlt
 apply wp_skip
 simp only [Exit.then]
 refine HK5.out _ _ ?_; clear HK5
 replace hG : Below w.heap.size w W ∧ True := ⟨hG, trivial⟩
 have hx : l[i]? = some l[i] := List.getElem?_eq_getElem hil
 have hxm := List.getElem_mem hil
 generalize l[i] = x at hx hxm
 have hgx : l.getD i z34 = x := by simp [List.getD, hx]
 obtain ⟨ad, hAd, -⟩ := ld_it (Kd.C_below HC.out hG.1) hx
 subst hAd
 obtain ⟨adf, hAf, -⟩ := ld_far HF.out hil
 subst hAf
 obtain ⟨adb, hAb, -⟩ := ld_beg HBg.out (i := i) (by omega)
 subst hAb
 refine wp_seq_h fun K6 HK6 => ?_
 apply wp_block
 refine wp_seq_h fun K7 HK7 => ?_
 refine wp_listed (R := fun W W' => Below W.heap.size W W') 5 [.val (.int .i64 (i : Int)), .val (.pointer (some (ad.add (i * 7)))), .val (.agg (it x)), newSpec (.cells (it z34) 34 (0, 0)) (w.heap.size), .val (.int .i64 (i : Int))] (fun W => Below w.heap.size w W ∧ True) kr hG ?_ ?_
 · intro vs W hG b hb
   have e12 : b.eval (.tmp 12) = .slice (some ad) l.length c := eo_ hb
   have e14 : b.eval (.tmp 14) = .int .i64 (i : Int) := eo_ hb
   refine ai ?_ (ai ?_ (ai ?_ (ai ?_ (ai ?_ (trivial)))))
   · exact mI hG fun hp => e14
   · exact gv rfl hG fun hp K hK => st_index rfl (e12) (e14) (ix23 hil _) hK
   · exact gv rfl hG fun hp K hK => st_load rfl (ev 17 hb 1 (hp 1 kr)) (m_43) hK
   · exact g0 fun hp K hK => st_alloc rfl (new34 _) (hK _ _ ⟨_, rfl, blk_new _ _, hG.1.size⟩ ⟨hG.1.alloc hG.1.size _, trivial⟩ (br.alloc (Nat.le_refl _) _))
   · exact gv rfl hG fun hp K hK => st_move (.inr rfl) (ev 16 hb 0 (hp 0 kr)) hK
 intro vs W hG hp b hb
 have q0 : vs 0 = _ := hp 0 kd
 have q1 : vs 1 = _ := hp 1 kd
 have q2 : vs 2 = _ := hp 2 kd
 have q3 : ∃ gg, (vs 3) = .pointer (some ⟨gg, 0, none⟩) ∧ W.heap[gg]? = some (.cells (it z34) 34 (0, 0)) ∧ w.heap.size ≤ gg := hp 3 kd
 have q4 : vs 4 = _ := hp 4 kd
 clear hp
 simp only [fillS, Nat.reduceAdd, Nat.zero_add, q0, q1, q2, q4] at hb
 subst hb
 simp only [List.append_eq, List.cons_append, List.nil_append, List.drop_succ_cons, List.drop_zero]
 clear q0 q1 q2 q4
 obtain ⟨gx, hv, Ax, hg⟩ := q3
 rw [hv]
 clear hv
 refine wpList_store_mid rfl 34 (.tmp 10) (.tmp 18) rfl gx 0 (it x) rfl rfl (by have h := blk_there Ax; exact h) kr kr ?_
 refine wpList_nil ?_
 simp only [Act.put]
 have hG2 : Below w.heap.size w (W.setCells gx 0 (it x).toList) ∧ (W.setCells gx 0 (it x).toList).heap[gx]? = some (.cells (it x) 34 (0, 0)) := ⟨below_sets _ 0 w W gx hG.1 hg, blk_puts (cs' := it x) Ax rfl⟩
 clear Ax hG
 generalize W.setCells gx 0 (it x).toList = V at hG2 ⊢
 clear W
 refine HK7.out _ _ ?_; clear HK7
 refine wp_seq_h fun K8 HK8 => ?_
 refine wp_listed (R := fun W W' => Below W.heap.size W W') 5 [.val (.slice (some adb) (l.length + 1) cb), .val (.int .i64 (i : Int)), .val (.pointer (some (adb.add i))), .val (.int .i64 (beg l far i)), .val (.int .i64 (beg l far i))] (fun W => Below w.heap.size w W ∧ W.heap[gx]? = some (.cells (it x) 34 (0, 0))) kr hG2 ?_ ?_
 · intro vs W hG b hb
   have e3 : b.eval (.tmp 3) = .slice (some adb) (l.length + 1) cb := eo_ hb
   have e9 : b.eval (.tmp 9) = .int .i64 (i : Int) := eo_ hb
   refine ai ?_ (ai ?_ (ai ?_ (ai ?_ (ai ?_ (trivial)))))
   · exact mI hG fun hp => e3
   · exact mI hG fun hp => e9
   · exact gv rfl hG fun hp K hK => st_index rfl (ev 19 hb 0 (hp 0 kr)) (ev 20 hb 1 (hp 1 kr)) (ix25n (Nat.lt_succ_of_lt hil) _) hK
   · exact gv rfl hG fun hp K hK => st_load rfl (ev 21 hb 2 (hp 2 kr)) (by obtain ⟨a', ha', hl'⟩ := ld_beg (Kd.C_below HBg.out hG.1) (Nat.lt_succ_of_lt hil); rw [Option.some.inj ha']; exact ld_cell 3 kr hl') hK
   · exact gv rfl hG fun hp K hK => st_move (.inr rfl) (ev 22 hb 3 (hp 3 kr)) hK
 intro vs W hG hp b hb
 have q4 : vs 4 = _ := hp 4 kd
 clear hp
 simp only [fillS, Nat.reduceAdd, Nat.zero_add, q4] at hb
 subst hb
 refine wpList_nil ?_
 clear q4
 clear hG2
 refine HK8.out _ _ ?_; clear HK8
 refine wp_seq_h fun K9 HK9 => ?_
 refine wp_seq_h fun K10 HK10 => ?_
 refine wp_listed (R := fun W W' => Below W.heap.size W W') 4 [.val (.slice (some adf) l.length cf), .val (.int .i64 (i : Int)), .val (.pointer (some (adf.add i))), .val (.bool (far i))] (fun W => Below w.heap.size w W ∧ W.heap[gx]? = some (.cells (it x) 34 (0, 0))) kr hG ?_ ?_
 · intro vs W hG b hb
   have e2 : b.eval (.tmp 2) = .slice (some adf) l.length cf := eo_ hb
   have e9 : b.eval (.tmp 9) = .int .i64 (i : Int) := eo_ hb
   refine ai ?_ (ai ?_ (ai ?_ (ai ?_ (trivial))))
   · exact mI hG fun hp => e2
   · exact mI hG fun hp => e9
   · exact gv rfl hG fun hp K hK => st_index rfl (ev 23 hb 0 (hp 0 kr)) (ev 24 hb 1 (hp 1 kr)) (ix26 hil _) hK
   · exact gv rfl hG fun hp K hK => st_load rfl (ev 25 hb 2 (hp 2 kr)) (by obtain ⟨a', ha', hl'⟩ := ld_far (Kd.C_below HF.out hG.1) hil; rw [Option.some.inj ha']; exact ld_cell 4 kr hl') hK
 intro vs W hG hp b hb
 have q3 : vs 3 = _ := hp 3 kd
 clear hp
 simp only [fillS, Nat.reduceAdd, Nat.zero_add, q3] at hb
 subst hb
 refine wpList_nil ?_
 clear q3
 refine HK10.out _ _ ?_; clear HK10
 have hinc : IntKind.i64.wrap ((i : Int) + 1) = (i : Int) + 1 := IntWalk.i64_in _ (m_55)
 have hbi := beg_in l far i
 have hba := beg_in l far (at_ l x.f2)
 have hal := at_lt l x.f2
 refine wp_cond_split rfl (fun hf => ?_) (fun hf => ?_)
 · skip
   refine wp_listed (R := fun W W' => Below W.heap.size W W') 2 [.val (.int .i64 (beg l far i)), .val (.int .i64 (beg l far i + 4))] (fun W => Below w.heap.size w W ∧ W.heap[gx]? = some (.cells (it x) 34 (0, 0))) kr hG ?_ ?_
   · intro vs W hG b hb
     have e11 : b.eval (.tmp 11) = .int .i64 (beg l far i) := eo_ hb
     refine ai ?_ (ai ?_ (trivial))
     · exact mI hG fun hp => e11
     · exact gv rfl hG fun hp K hK => st_bin rfl (ev 27 hb 0 (hp 0 kr)) (eval_const _) (b_add (IntWalk.i64_in _ (m_55))) hK
   intro vs W hG hp b hb
   have q1 : vs 1 = _ := hp 1 kd
   clear hp
   simp only [fillS, Nat.reduceAdd, Nat.zero_add, q1] at hb
   subst hb
   simp only [List.append_eq, List.cons_append, List.nil_append, List.drop_succ_cons, List.drop_zero]
   clear q1
   have HG := Lib.hid hG
   have Hbi := Lib.hid (And.intro hbi (And.intro hba hal))
   clear hG hbi hba hal
   go_wp2
   have hG := HG.out
   obtain ⟨hbi, hba, hal⟩ := Hbi.out
   clear HG Hbi
   refine HK9.out _ _ ?_; clear HK9
   refine wp_seq_h fun K11 HK11 => ?_
   refine wp_listed (R := fun W W' => Below W.heap.size W W') 22 [.val (.slice (some adf) l.length cf), .val (.int .i64 (i : Int)), .val (.pointer (some (adf.add i))), .val (.bool (far i)), .val (.bool (far i)), .val ((bif ((far i) == false) then (.pointer (some ⟨gx, 0, none⟩)) else undef)), .val ((bif ((far i) == false) then (.int .i64 x.f0) else undef)), .val ((bif ((far i) == false) then (.bool (x.f0 == 4)) else undef)), .val (.bool ((far i) || (x.f0 == 4))), .val (.bool ((far i) || (x.f0 == 4))), .val ((bif (((far i) || (x.f0 == 4)) == true) then (.slice (some adb) (l.length + 1) cb) else undef)), .val ((bif (((far i) || (x.f0 == 4)) == true) then (.map (some gm)) else undef)), .val ((bif (((far i) || (x.f0 == 4)) == true) then (.pointer (some ⟨gx, 6, none⟩)) else undef)), .val ((bif (((far i) || (x.f0 == 4)) == true) then (.int .i64 x.f2) else undef)), .val ((bif (((far i) || (x.f0 == 4)) == true) then (.int .i64 ((at_ l x.f2) : Int)) else undef)), .val ((bif (((far i) || (x.f0 == 4)) == true) then (.pointer (some (adb.add (at_ l x.f2)))) else undef)), .val ((bif (((far i) || (x.f0 == 4)) == true) then (.int .i64 (beg l far (at_ l x.f2))) else undef)), .val ((bif (((far i) || (x.f0 == 4)) == true) then (.int .i64 (beg l far i + 4)) else undef)), .val ((bif (((far i) || (x.f0 == 4)) == true) then (.int .i64 (beg l far (at_ l x.f2) - (beg l far i + 4))) else undef)), .val ((bif (((far i) || (x.f0 == 4)) == true) then (.bool true) else undef)), .val ((bif (((far i) || (x.f0 == 4)) == true) then (.bool (!true)) else undef)), .val (.bool (((far i) || (x.f0 == 4)) && (!true)))] (fun W => Below w.heap.size w W ∧ W.heap[gx]? = some (.cells (it x) 34 (0, 0))) kr hG ?_ ?_
   · intro vs W hG b hb
     have i33 := ei_ 33 hb 4
     have i38 := ei_ 38 hb 9
     have e1 : b.eval (.tmp 1) = .map (some gm) := eo_ hb
     have e2 : b.eval (.tmp 2) = .slice (some adf) l.length cf := eo_ hb
     have e3 : b.eval (.tmp 3) = .slice (some adb) (l.length + 1) cb := eo_ hb
     have e9 : b.eval (.tmp 9) = .int .i64 (i : Int) := eo_ hb
     have e10 : b.eval (.tmp 10) = .pointer (some ⟨gx, 0, none⟩) := eo_ hb
     have e11 : b.eval (.tmp 11) = .int .i64 (beg l far i + 4) := eo_ hb
     refine ai ?_ (ai ?_ (ai ?_ (ai ?_ (ai ?_ (ai ?_ (ai ?_ (ai ?_ (ai ?_ (ai ?_ (ai ?_ (ai ?_ (ai ?_ (ai ?_ (ai ?_ (ai ?_ (ai ?_ (ai ?_ (ai ?_ (ai ?_ (ai ?_ (ai ?_ (trivial))))))))))))))))))))))
     · exact mI hG fun hp => e2
     · exact mI hG fun hp => e9
     · exact gv rfl hG fun hp K hK => st_index rfl (ev 29 hb 0 (hp 0 kr)) (ev 30 hb 1 (hp 1 kr)) (ix26 hil _) hK
     · exact gv rfl hG fun hp K hK => st_load rfl (ev 31 hb 2 (hp 2 kr)) (by obtain ⟨a', ha', hl'⟩ := ld_far (Kd.C_below HF.out hG.1) hil; rw [Option.some.inj ha']; exact ld_cell 4 kr hl') hK
     · exact mI hG fun hp => ev 32 hb 3 (hp 3 kr)
     · exact gI 4 33 (far i) false i33 hG fun hp K hK hc => st_field rfl (e10) kr (hK _ _ (cond_yes hc).symm hG br)
     · exact gI 4 33 (far i) false i33 hG fun hp K hK hc => st_load rfl ((ev 34 hb 5 (hp 5 kr)).trans (cond_yes hc)) (ld_cell 3 kr ((blk_cell hG.2 0).trans rfl)) (hK _ _ (cond_yes hc).symm hG br)
     · exact gI 4 33 (far i) false i33 hG fun hp K hK hc => st_bin rfl ((ev 35 hb 6 (hp 6 kr)).trans (cond_yes hc)) (eval_const _) b_eql (hK _ _ (cond_yes hc).symm hG br)
     · refine g0 fun hp K hK => ?_; have e33 : b.eval (.tmp 33) = _ := ev 33 hb 4 (hp 4 kr); have e36 : b.eval (.tmp 36) = _ := ev 36 hb 7 (hp 7 kr); exact st_pick rfl (e33) (by first | (rw [e36]; exact pick_or) | (rw [show b.eval (Operand.tmp 36) = _ from eval_const _]; exact pick_or)) (hK _ _ rfl hG br)
     · exact mI hG fun hp => ev 37 hb 8 (hp 8 kr)
     · exact gI 9 38 ((far i) || (x.f0 == 4)) true i38 hG fun hp K hK hc => st_move (.inl rfl) (e3) (hK _ _ (cond_yes hc).symm hG br)
     · exact gI 9 38 ((far i) || (x.f0 == 4)) true i38 hG fun hp K hK hc => st_move (.inl rfl) (e1) (hK _ _ (cond_yes hc).symm hG br)
     · exact gI 9 38 ((far i) || (x.f0 == 4)) true i38 hG fun hp K hK hc => st_field rfl (e10) kr (hK _ _ (cond_yes hc).symm hG br)
     · exact gI 9 38 ((far i) || (x.f0 == 4)) true i38 hG fun hp K hK hc => st_load rfl ((ev 41 hb 12 (hp 12 kr)).trans (cond_yes hc)) (ld_cell 3 kr ((blk_cell hG.2 6).trans rfl)) (hK _ _ (cond_yes hc).symm hG br)
     · exact gI 9 38 ((far i) || (x.f0 == 4)) true i38 hG fun hp K hK hc => st_lookup rfl ((ev 40 hb 11 (hp 11 kr)).trans (cond_yes hc)) ((ev 42 hb 13 (hp 13 kr)).trans (cond_yes hc)) (look_at (mapIs_below HM.out hG.1) (HI.out _ hxm)) (hK _ _ (cond_yes hc).symm hG br)
     · exact gI 9 38 ((far i) || (x.f0 == 4)) true i38 hG fun hp K hK hc => st_index rfl ((ev 39 hb 10 (hp 10 kr)).trans (cond_yes hc)) ((ev 43 hb 14 (hp 14 kr)).trans (cond_yes hc)) (ix25n hal _) (hK _ _ (cond_yes hc).symm hG br)
     · exact gI 9 38 ((far i) || (x.f0 == 4)) true i38 hG fun hp K hK hc => st_load rfl ((ev 44 hb 15 (hp 15 kr)).trans (cond_yes hc)) (by obtain ⟨a', ha', hl'⟩ := ld_beg (Kd.C_below HBg.out hG.1) hal; rw [Option.some.inj ha']; exact ld_cell 3 kr hl') (hK _ _ (cond_yes hc).symm hG br)
     · exact gI 9 38 ((far i) || (x.f0 == 4)) true i38 hG fun hp K hK hc => st_move (.inl rfl) (e11) (hK _ _ (cond_yes hc).symm hG br)
     · exact gI 9 38 ((far i) || (x.f0 == 4)) true i38 hG fun hp K hK hc => st_bin rfl ((ev 45 hb 16 (hp 16 kr)).trans (cond_yes hc)) ((ev 46 hb 17 (hp 17 kr)).trans (cond_yes hc)) (b_sub (IntWalk.i64_in _ (m_55))) (hK _ _ (cond_yes hc).symm hG br)
     · refine gI 9 38 ((far i) || (x.f0 == 4)) true i38 hG fun hp K hK hc => ?_; have e47 : b.eval (.tmp 47) = _ := ev 47 hb 18 (hp 18 kr); replace e47 := e47.trans (cond_yes hc); refine st_call rfl (m_60) kr ?_; refine (relax_within.calls (beg l far (at_ l x.f2) - (beg l far i + 4)) (-1048576) 1048574 true _ (by rw [within_some, decide_eq_true (m_55)])).mono ?_; rintro e w' ⟨rfl, hd⟩; have hc' := below_drawn hd; exact ⟨_, rfl, hK _ _ (cond_yes hc).symm ⟨below_step hG.1 hc', blk_below hG.2 hc'⟩ hc'⟩
     · exact gI 9 38 ((far i) || (x.f0 == 4)) true i38 hG fun hp K hK hc => st_un rfl ((ev 48 hb 19 (hp 19 kr)).trans (cond_yes hc)) u_not (hK _ _ (cond_yes hc).symm hG br)
     · refine g0 fun hp K hK => ?_; have e38 : b.eval (.tmp 38) = _ := ev 38 hb 9 (hp 9 kr); have e49 : b.eval (.tmp 49) = _ := ev 49 hb 20 (hp 20 kr); exact st_pick rfl (e38) (by first | (rw [e49]; exact pick_and) | (rw [show b.eval (Operand.tmp 49) = _ from eval_const _]; exact pick_and)) (hK _ _ rfl hG br)
   intro vs W hG hp b hb
   have q21 : vs 21 = _ := hp 21 kd
   clear hp
   simp only [fillS, Nat.reduceAdd, Nat.zero_add, q21] at hb
   subst hb
   refine wpList_nil ?_
   clear q21
   refine HK11.out _ _ ?_; clear HK11
   exact lfxRl60
 apply wp_skip
 simp only [Exit.then]
 refine HK9.out _ _ ?_; clear HK9
 refine wp_seq_h fun K12 HK12 => ?_
 refine wp_listed (R := fun W W' => Below W.heap.size W W') 22 [.val (.slice (some adf) l.length cf), .val (.int .i64 (i : Int)), .val (.pointer (some (adf.add i))), .val (.bool (far i)), .val (.bool (far i)), .val ((bif ((far i) == false) then (.pointer (some ⟨gx, 0, none⟩)) else undef)), .val ((bif ((far i) == false) then (.int .i64 x.f0) else undef)), .val ((bif ((far i) == false) then (.bool (x.f0 == 4)) else undef)), .val (.bool ((far i) || (x.f0 == 4))), .val (.bool ((far i) || (x.f0 == 4))), .val ((bif (((far i) || (x.f0 == 4)) == true) then (.slice (some adb) (l.length + 1) cb) else undef)), .val ((bif (((far i) || (x.f0 == 4)) == true) then (.map (some gm)) else undef)), .val ((bif (((far i) || (x.f0 == 4)) == true) then (.pointer (some ⟨gx, 6, none⟩)) else undef)), .val ((bif (((far i) || (x.f0 == 4)) == true) then (.int .i64 x.f2) else undef)), .val ((bif (((far i) || (x.f0 == 4)) == true) then (.int .i64 ((at_ l x.f2) : Int)) else undef)), .val ((bif (((far i) || (x.f0 == 4)) == true) then (.pointer (some (adb.add (at_ l x.f2)))) else undef)), .val ((bif (((far i) || (x.f0 == 4)) == true) then (.int .i64 (beg l far (at_ l x.f2))) else undef)), .val ((bif (((far i) || (x.f0 == 4)) == true) then (.int .i64 (beg l far i)) else undef)), .val ((bif (((far i) || (x.f0 == 4)) == true) then (.int .i64 (beg l far (at_ l x.f2) - (beg l far i))) else undef)), .val ((bif (((far i) || (x.f0 == 4)) == true) then (.bool true) else undef)), .val ((bif (((far i) || (x.f0 == 4)) == true) then (.bool (!true)) else undef)), .val (.bool (((far i) || (x.f0 == 4)) && (!true)))] (fun W => Below w.heap.size w W ∧ W.heap[gx]? = some (.cells (it x) 34 (0, 0))) kr hG ?_ ?_
 · intro vs W hG b hb
   have i33 := ei_ 33 hb 4
   have i38 := ei_ 38 hb 9
   have e1 : b.eval (.tmp 1) = .map (some gm) := eo_ hb
   have e2 : b.eval (.tmp 2) = .slice (some adf) l.length cf := eo_ hb
   have e3 : b.eval (.tmp 3) = .slice (some adb) (l.length + 1) cb := eo_ hb
   have e9 : b.eval (.tmp 9) = .int .i64 (i : Int) := eo_ hb
   have e10 : b.eval (.tmp 10) = .pointer (some ⟨gx, 0, none⟩) := eo_ hb
   have e11 : b.eval (.tmp 11) = .int .i64 (beg l far i) := eo_ hb
   refine ai ?_ (ai ?_ (ai ?_ (ai ?_ (ai ?_ (ai ?_ (ai ?_ (ai ?_ (ai ?_ (ai ?_ (ai ?_ (ai ?_ (ai ?_ (ai ?_ (ai ?_ (ai ?_ (ai ?_ (ai ?_ (ai ?_ (ai ?_ (ai ?_ (ai ?_ (trivial))))))))))))))))))))))
   · exact mI hG fun hp => e2
   · exact mI hG fun hp => e9
   · exact gv rfl hG fun hp K hK => st_index rfl (ev 29 hb 0 (hp 0 kr)) (ev 30 hb 1 (hp 1 kr)) (ix26 hil _) hK
   · exact gv rfl hG fun hp K hK => st_load rfl (ev 31 hb 2 (hp 2 kr)) (by obtain ⟨a', ha', hl'⟩ := ld_far (Kd.C_below HF.out hG.1) hil; rw [Option.some.inj ha']; exact ld_cell 4 kr hl') hK
   · exact mI hG fun hp => ev 32 hb 3 (hp 3 kr)
   · exact gI 4 33 (far i) false i33 hG fun hp K hK hc => st_field rfl (e10) kr (hK _ _ (cond_yes hc).symm hG br)
   · exact gI 4 33 (far i) false i33 hG fun hp K hK hc => st_load rfl ((ev 34 hb 5 (hp 5 kr)).trans (cond_yes hc)) (ld_cell 3 kr ((blk_cell hG.2 0).trans rfl)) (hK _ _ (cond_yes hc).symm hG br)
   · exact gI 4 33 (far i) false i33 hG fun hp K hK hc => st_bin rfl ((ev 35 hb 6 (hp 6 kr)).trans (cond_yes hc)) (eval_const _) b_eql (hK _ _ (cond_yes hc).symm hG br)
   · refine g0 fun hp K hK => ?_; have e33 : b.eval (.tmp 33) = _ := ev 33 hb 4 (hp 4 kr); have e36 : b.eval (.tmp 36) = _ := ev 36 hb 7 (hp 7 kr); exact st_pick rfl (e33) (by first | (rw [e36]; exact pick_or) | (rw [show b.eval (Operand.tmp 36) = _ from eval_const _]; exact pick_or)) (hK _ _ rfl hG br)
   · exact mI hG fun hp => ev 37 hb 8 (hp 8 kr)
   · exact gI 9 38 ((far i) || (x.f0 == 4)) true i38 hG fun hp K hK hc => st_move (.inl rfl) (e3) (hK _ _ (cond_yes hc).symm hG br)
   · exact gI 9 38 ((far i) || (x.f0 == 4)) true i38 hG fun hp K hK hc => st_move (.inl rfl) (e1) (hK _ _ (cond_yes hc).symm hG br)
   · exact gI 9 38 ((far i) || (x.f0 == 4)) true i38 hG fun hp K hK hc => st_field rfl (e10) kr (hK _ _ (cond_yes hc).symm hG br)
   · exact gI 9 38 ((far i) || (x.f0 == 4)) true i38 hG fun hp K hK hc => st_load rfl ((ev 41 hb 12 (hp 12 kr)).trans (cond_yes hc)) (ld_cell 3 kr ((blk_cell hG.2 6).trans rfl)) (hK _ _ (cond_yes hc).symm hG br)
   · exact gI 9 38 ((far i) || (x.f0 == 4)) true i38 hG fun hp K hK hc => st_lookup rfl ((ev 40 hb 11 (hp 11 kr)).trans (cond_yes hc)) ((ev 42 hb 13 (hp 13 kr)).trans (cond_yes hc)) (look_at (mapIs_below HM.out hG.1) (HI.out _ hxm)) (hK _ _ (cond_yes hc).symm hG br)
   · exact gI 9 38 ((far i) || (x.f0 == 4)) true i38 hG fun hp K hK hc => st_index rfl ((ev 39 hb 10 (hp 10 kr)).trans (cond_yes hc)) ((ev 43 hb 14 (hp 14 kr)).trans (cond_yes hc)) (ix25n hal _) (hK _ _ (cond_yes hc).symm hG br)
   · exact gI 9 38 ((far i) || (x.f0 == 4)) true i38 hG fun hp K hK hc => st_load rfl ((ev 44 hb 15 (hp 15 kr)).trans (cond_yes hc)) (by obtain ⟨a', ha', hl'⟩ := ld_beg (Kd.C_below HBg.out hG.1) hal; rw [Option.some.inj ha']; exact ld_cell 3 kr hl') (hK _ _ (cond_yes hc).symm hG br)
   · exact gI 9 38 ((far i) || (x.f0 == 4)) true i38 hG fun hp K hK hc => st_move (.inl rfl) (e11) (hK _ _ (cond_yes hc).symm hG br)
   · exact gI 9 38 ((far i) || (x.f0 == 4)) true i38 hG fun hp K hK hc => st_bin rfl ((ev 45 hb 16 (hp 16 kr)).trans (cond_yes hc)) ((ev 46 hb 17 (hp 17 kr)).trans (cond_yes hc)) (b_sub (IntWalk.i64_in _ (m_55))) (hK _ _ (cond_yes hc).symm hG br)
   · refine gI 9 38 ((far i) || (x.f0 == 4)) true i38 hG fun hp K hK hc => ?_; have e47 : b.eval (.tmp 47) = _ := ev 47 hb 18 (hp 18 kr); replace e47 := e47.trans (cond_yes hc); refine st_call rfl (m_60) kr ?_; refine (relax_within.calls (beg l far (at_ l x.f2) - (beg l far i)) (-1048576) 1048574 true _ (by rw [within_some, decide_eq_true (m_55)])).mono ?_; rintro e w' ⟨rfl, hd⟩; have hc' := below_drawn hd; exact ⟨_, rfl, hK _ _ (cond_yes hc).symm ⟨below_step hG.1 hc', blk_below hG.2 hc'⟩ hc'⟩
   · exact gI 9 38 ((far i) || (x.f0 == 4)) true i38 hG fun hp K hK hc => st_un rfl ((ev 48 hb 19 (hp 19 kr)).trans (cond_yes hc)) u_not (hK _ _ (cond_yes hc).symm hG br)
   · refine g0 fun hp K hK => ?_; have e38 : b.eval (.tmp 38) = _ := ev 38 hb 9 (hp 9 kr); have e49 : b.eval (.tmp 49) = _ := ev 49 hb 20 (hp 20 kr); exact st_pick rfl (e38) (by first | (rw [e49]; exact pick_and) | (rw [show b.eval (Operand.tmp 49) = _ from eval_const _]; exact pick_and)) (hK _ _ rfl hG br)
 intro vs W hG hp b hb
 have q21 : vs 21 = _ := hp 21 kd
 clear hp
 simp only [fillS, Nat.reduceAdd, Nat.zero_add, q21] at hb
 subst hb
 refine wpList_nil ?_
 clear q21
 refine HK12.out _ _ ?_; clear HK12
 exact lfxRl60
end Go.Proofs.Ytihecimbhhlhaaa.Rl
