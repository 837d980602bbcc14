/- Where. -/
import Derived.Test.YtihecimbhhlhaaaAm3
namespace Go.Proofs.Ytihecimbhhlhaaa.Rl
open Go.RowKit Dr PRs
open Go.Proofs.YtihecimbhhlhaaaW.PrintWords (Kd Kd.C Kd.R Kd.C_below Kd.C_get Kd.R_below Kd.R_reads Kd.R_reads' Kd.R_types Kd.R_step Kd.R_alloc Kd.R_drew Kd.R_lower add_field)
set_option linter.unusedVariables false
set_option linter.unusedSimpArgs false
set_option maxRecDepth 100000
theorem cvu32 {r : Int} (h : 0 ≤ r ∧ r ≤ 4294967295) (W : World) : (convert 3 42 (.int .i64 r)).run Try.prog W = .ok (.int .u32 r) W := by
 have e : (convert 3 42 (.int .i64 r)).run Try.prog W = .ok (.int .u32 (IntKind.u32.wrap r)) W := by kernel_rfl
 rw [e, IntWalk.u32_in _ h]
theorem flab_some {l : List S34} (far : Nat → Bool) {key : Int} (h : (lab l l.length key).isSome = true) : (flab l far l.length key).isSome = true := by
 unfold flab
 rw [Option.isSome_map]
 exact h
set_option maxHeartbeats 8000000 in
theorem where_good (A : Option Addr) (c : Nat) (l : List S34) (bz key : Int) (w : World) (hbz : bz.tmod 4 = 0) (hb0 : 0 ≤ bz ∧ bz ≤ 4096) (hl : l.length ≤ 4000) (hI : ∀ x ∈ l, In64 x.f2) (hJ : ∀ x ∈ l, In32 x.f1.f4) (hC : Kd.C k34 w A l.length l) (ho : okL l) (hk : In64 key) (hs : (lab l l.length key).isSome = true) :
 Calls Try.prog 16 #[.int .u32 bz, .slice A l.length c, .int .i64 key] w fun e w' => ∃ far, e = .returned (.tuple #[.int .u32 (bz + beg l far (at_ l key)), .int .i64 0]) ∧ (good l far ∧ FI l far) ∧ Below w.heap.size w w' := by
 have HL := Lib.hid hl
 have HI := Lib.hid hI
 have HJ := Lib.hid hJ
 have HC := Lib.hid hC
 clear hl hI hJ hC
 go_enter Try.func16, Try.ntmps16
 refine wp_seq_h fun K1 HK1 => ?_
 go_wp2
 have hG : Below w.heap.size w w := Below.refl _ _
 refine HK1.out _ _ ?_; clear HK1
 refine wp_seq_h fun K2 HK2 => ?_
 refine wp_listed (R := fun W W' => Below W.heap.size W W') 3 [.val (.int .u32 bz), .val (.slice A l.length c), ldS l A c] (fun W => Below w.heap.size w W) kr hG ?_ ?_
 · intro vs W hG b hb
   have e0 : b.eval (.tmp 0) = .int .u32 bz := eo_ hb
   have e1 : b.eval (.tmp 1) = .slice A l.length c := eo_ hb
   refine ai ?_ (ai ?_ (ai ?_ (trivial)))
   · exact mI hG fun hp => e0
   · exact mI hG fun hp => e1
   · refine g0 fun hp K hK => ?_; have e13 : b.eval (.tmp 13) = _ := ev 13 hb 0 (hp 0 kr); have e14 : b.eval (.tmp 14) = _ := ev 14 hb 1 (hp 1 kr); refine st_call rfl (by first | (simp only [List.map_toArray, List.map_cons, List.map_nil, eval_const, e13, e14]; done) | (simp only [List.map_toArray, List.map_cons, List.map_nil, eval_const, e13, e14]; rfl)) kr ?_; refine (lay_good A c l bz _ hbz HL.out HI.out HJ.out (Kd.C_below HC.out hG) ho).mono ?_; rintro e w' ⟨far, adb, cb, gf, gm, gp, rfl, hP, hb'⟩; exact ⟨_, rfl, hK _ _ ⟨_, _, _, _, _, _, rfl, hP⟩ (below_step hG hb') hb'⟩
 intro vs W hG hp b hb
 have q0 : vs 0 = _ := hp 0 kd
 have q1 : vs 1 = _ := hp 1 kd
 have q2 : ∃ far adb cb gf gm gp, (vs 2) = .tuple #[.pointer (some ⟨gp, 0, none⟩), .int .i64 0] ∧ LD l far A c adb cb gf gm gp W := hp 2 kd
 clear hp
 simp only [fillS, Nat.reduceAdd, Nat.zero_add, q0, q1] at hb
 subst hb
 simp only [List.append_eq, List.cons_append, List.nil_append, List.drop_succ_cons, List.drop_zero]
 clear q0 q1
 obtain ⟨far, adb, cb, gf, gm, gp, hv, hP⟩ := q2
 rw [hv]
 clear hv
 obtain ⟨W0, hW0⟩ : ∃ W0, W0 = W := ⟨W, rfl⟩
 have HD := Lib.hid (show LD l far A c adb cb gf gm gp W0 by rw [hW0]; exact hP)
 have HW := Lib.hid (show Below w.heap.size w W0 by rw [hW0]; exact hG)
 clear hG hP
 have hG : Below W0.heap.size W0 W := by rw [hW0]; exact Below.refl _ _
 clear hW0
 clear HC
 have HGG := Lib.hid hG
 clear hG
 go_wp2
 have hG := HGG.out
 clear HGG
 refine HK2.out _ _ ?_; clear HK2
 refine wp_seq_h fun K3 HK3 => ?_
 refine wp_seq_h fun K4 HK4 => ?_
 refine wp_listed (R := fun W W' => Below W.heap.size W W') 2 [.val (.int .i64 0), .val (.bool (0 != 0))] (fun W => Below W0.heap.size W0 W) kr hG ?_ ?_
 · intro vs W hG b hb
   have e9 : b.eval (.tmp 9) = .int .i64 0 := eo_ hb
   refine ai ?_ (ai ?_ (trivial))
   · exact mI hG fun hp => e9
   · exact gv rfl hG fun hp K hK => st_bin rfl (ev 18 hb 0 (hp 0 kr)) (eval_const _) b_neq hK
 intro vs W hG hp b hb
 have q1 : vs 1 = _ := hp 1 kd
 clear hp
 simp only [fillS, Nat.reduceAdd, Nat.zero_add, q1] at hb
 subst hb
 refine wpList_nil ?_
 clear q1
 refine HK4.out _ _ ?_; clear HK4
 apply wp_cond_false rfl
 apply wp_skip
 simp only [Exit.then]
 refine HK3.out _ _ ?_; clear HK3
 have hfa := flab_at far hs
 have hfs := flab_some far hs
 have hba := beg_in l far (at_ l key)
 have hal := at_lt l key
 refine wp_seq_h fun K5 HK5 => ?_
 refine wp_listed (R := fun W W' => Below W.heap.size W W') 11 [.val (.pointer (some ⟨gp, 0, none⟩)), .val (.pointer (some ⟨gp, 0, none⟩)), .val (.pointer (some ⟨gp, 3, none⟩)), .val (.map (some gm)), .val (.int .i64 key), .val (.tuple #[.int .i64 (beg l far (at_ l key)), .bool true]), .val (.tuple #[.int .i64 (beg l far (at_ l key)), .bool true]), .val (.int .i64 (beg l far (at_ l key))), .val (.bool true), .val (.int .i64 (beg l far (at_ l key))), .val (.bool true)] (fun W => Below W0.heap.size W0 W) kr hG ?_ ?_
 · intro vs W hG b hb
   have e2 : b.eval (.tmp 2) = .int .i64 key := eo_ hb
   have e8 : b.eval (.tmp 8) = .pointer (some ⟨gp, 0, none⟩) := eo_ hb
   refine ai ?_ (ai ?_ (ai ?_ (ai ?_ (ai ?_ (ai ?_ (ai ?_ (ai ?_ (ai ?_ (ai ?_ (ai ?_ (trivial)))))))))))
   · exact mI hG fun hp => e8
   · exact gv rfl hG fun hp K hK => st_nilCheck rfl (ev 22 hb 0 (hp 0 kr)) hK
   · exact gv rfl hG fun hp K hK => st_field rfl (ev 23 hb 1 (hp 1 kr)) kr hK
   · exact gv rfl hG fun hp K hK => st_load rfl (ev 24 hb 2 (hp 2 kr)) (ld_cell 49 kr ((blk_cell (blk_below HD.out.1 hG) 3).trans rfl)) hK
   · exact mI hG fun hp => e2
   · exact gv rfl hG fun hp K hK => st_lookup rfl (ev 25 hb 3 (hp 3 kr)) (ev 26 hb 4 (hp 4 kr)) (by have h := look_ok (mapIs_below HD.out.2.2.2 hG) hk; rw [hfa, hfs] at h; exact h) hK
   · exact mI hG fun hp => ev 27 hb 5 (hp 5 kr)
   · exact gv rfl hG fun hp K hK => st_extract rfl (ev 21 hb 6 (hp 6 kr)) kr hK
   · exact gv rfl hG fun hp K hK => st_extract rfl (ev 21 hb 6 (hp 6 kr)) kr hK
   · exact gv rfl hG fun hp K hK => st_move (.inr rfl) (ev 28 hb 7 (hp 7 kr)) hK
   · exact gv rfl hG fun hp K hK => st_move (.inr rfl) (ev 29 hb 8 (hp 8 kr)) hK
 intro vs W hG hp b hb
 have q9 : vs 9 = _ := hp 9 kd
 have q10 : vs 10 = _ := hp 10 kd
 clear hp
 simp only [fillS, Nat.reduceAdd, Nat.zero_add, q9, q10] at hb
 subst hb
 refine wpList_nil ?_
 clear q9 q10
 refine HK5.out _ _ ?_; clear HK5
 refine wp_seq_h fun K6 HK6 => ?_
 refine wp_seq_h fun K7 HK7 => ?_
 refine wp_listed (R := fun W W' => Below W.heap.size W W') 2 [.val (.bool true), .val (.bool (!true))] (fun W => Below W0.heap.size W0 W) kr hG ?_ ?_
 · intro vs W hG b hb
   have e11 : b.eval (.tmp 11) = .bool true := eo_ hb
   refine ai ?_ (ai ?_ (trivial))
   · exact mI hG fun hp => e11
   · exact gv rfl hG fun hp K hK => st_un rfl (ev 30 hb 0 (hp 0 kr)) u_not hK
 intro vs W hG hp b hb
 have q1 : vs 1 = _ := hp 1 kd
 clear hp
 simp only [fillS, Nat.reduceAdd, Nat.zero_add, q1] at hb
 subst hb
 refine wpList_nil ?_
 clear q1
 refine HK7.out _ _ ?_; clear HK7
 apply wp_cond_false rfl
 apply wp_skip
 simp only [Exit.then]
 refine HK6.out _ _ ?_; clear HK6
 refine wp_seq_h fun K8 HK8 => ?_
 refine wp_listed (R := fun W W' => Below W.heap.size W W') 6 [.val (.int .u32 bz), .val (.int .i64 (beg l far (at_ l key))), .val (.int .u32 (beg l far (at_ l key))), .val (.int .u32 (bz + (beg l far (at_ l key)))), .val (.int .u32 (bz + (beg l far (at_ l key)))), .val (.int .i64 0)] (fun W => Below W0.heap.size W0 W) kr hG ?_ ?_
 · intro vs W hG b hb
   have e0 : b.eval (.tmp 0) = .int .u32 bz := eo_ hb
   have e10 : b.eval (.tmp 10) = .int .i64 (beg l far (at_ l key)) := eo_ hb
   refine ai ?_ (ai ?_ (ai ?_ (ai ?_ (ai ?_ (ai ?_ (trivial))))))
   · exact mI hG fun hp => e0
   · exact mI hG fun hp => e10
   · exact gv rfl hG fun hp K hK => st_conv rfl (ev 33 hb 1 (hp 1 kr)) (cvu32 (by have := HL.out; omega) _) hK
   · exact gv rfl hG fun hp K hK => st_bin rfl (ev 32 hb 0 (hp 0 kr)) (ev 34 hb 2 (hp 2 kr)) (b_add (IntWalk.u32_in _ (by have := HL.out; omega))) hK
   · exact gv rfl hG fun hp K hK => st_move (.inr rfl) (ev 35 hb 3 (hp 3 kr)) hK
   · exact gv rfl hG fun hp K hK => st_move (.inr rfl) (eval_const _) hK
 intro vs W hG hp b hb
 have q4 : vs 4 = _ := hp 4 kd
 have q5 : vs 5 = _ := hp 5 kd
 clear hp
 simp only [fillS, Nat.reduceAdd, Nat.zero_add, q4, q5] at hb
 subst hb
 refine wpList_nil ?_
 clear q4 q5
 refine HK8.out _ _ ?_; clear HK8
 have HG := Lib.hid hG
 clear hG
 go_wp2
 first | go_ret2 | (rw [Exit.noGoto_ret]; go_ret2)
 exact ⟨far, rfl, HD.out.2.2.1.2, below_step HW.out HG.out⟩
end Go.Proofs.Ytihecimbhhlhaaa.Rl
