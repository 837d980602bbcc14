/- Items laid: where each label lies; the way to a label. -/
import Derived.Test.YtihecimbhhlhaaaRlD
import Derived.Test.YtihecimbhhlhaaaRsMc
namespace Go.Proofs.Ytihecimbhhlhaaa.Rl
open Go.RowKit Dr PRs
open Go.Proofs.YtihecimbhhlhaaaW.PrintWords (Kd Kd.C Kd.R Kd.C_below Kd.C_get Kd.R_below Kd.R_reads Kd.R_reads' Kd.R_types Kd.R_step Kd.R_alloc Kd.R_drew Kd.R_lower add_field)
set_option linter.unusedVariables false
set_option linter.unusedSimpArgs false
set_option maxRecDepth 100000
/-- Where a label lies, among the first m items. -/
def flab (l : List S34) (far : Nat → Bool) (m : Nat) (key : Int) : Option Int := (lab l m key).map fun j => beg l far j.toNat
theorem flab_zero (l : List S34) (far : Nat → Bool) : flab l far 0 = fun _ => none := by
 funext key
 rfl
theorem flab_skip {l : List S34} {far : Nat → Bool} {m : Nat} (h : (l.getD m z34).f0 ≠ 2) : flab l far (m + 1) = flab l far m := by
 funext key
 unfold flab
 rw [lab_skip h]
theorem flab_put {l : List S34} {far : Nat → Bool} {m : Nat} (h : (l.getD m z34).f0 = 2) : fput (flab l far m) (l.getD m z34).f2 (beg l far m) = flab l far (m + 1) := by
 funext key
 unfold flab
 rw [← lab_put h]
 unfold fput
 by_cases e : key = (l.getD m z34).f2
 · rw [if_pos e, if_pos e]; rfl
 · rw [if_neg e, if_neg e]
/-- What lies behind the pointer that lay answers. -/
def LD (l : List S34) (far : Nat → Bool) (A : Option Addr) (c : Nat) (adb : Addr) (cb gf gm gp : Nat) (W : World) : Prop :=
 W.heap[gp]? = some (.cells #[.slice A l.length c, .slice (some adb) (l.length + 1) cb, .slice (some ⟨gf, 0, none⟩) l.length l.length, .map (some gm)] 62 (0, 0)) ∧ Kd.C k34 W A l.length l ∧ layP l far adb cb gf W ∧ mapIs W gm l.length (flab l far l.length)
theorem LD_below {l : List S34} {far : Nat → Bool} {A : Option Addr} {c : Nat} {adb : Addr} {cb gf gm gp : Nat} {W W' : World} (h : LD l far A c adb cb gf gm gp W) (hb : Below W.heap.size W W') : LD l far A c adb cb gf gm gp W' :=
 ⟨blk_below h.1 hb, Kd.C_below h.2.1 hb, layP_below h.2.2.1 hb, mapIs_below h.2.2.2 hb⟩
def ldS (l : List S34) (A : Option Addr) (c : Nat) : DSpec (fun W W' => Below W.heap.size W W') := ⟨fun v W => ∃ far adb cb gf gm gp, v = .tuple #[.pointer (some ⟨gp, 0, none⟩), .int .i64 0] ∧ LD l far A c adb cb gf gm gp W, fun _ _ _ ⟨far, adb, cb, gf, gm, gp, h1, h2⟩ hb => ⟨far, adb, cb, gf, gm, gp, h1, LD_below h2 hb⟩⟩
theorem cv32 {r : Int} (h : In32 r) (W : World) : (convert 3 21 (.int .i64 r)).run Try.prog W = .ok (.int .i32 r) W := by
 have e : (convert 3 21 (.int .i64 r)).run Try.prog W = .ok (.int .i32 (IntKind.i32.wrap r)) W := by kernel_rfl
 have e2 : IntKind.i32.wrap r = r := by
  unfold In32 at h
  exact IntWalk.i32_in _ (by omega)
 rw [e, e2]
theorem box62 (v0 v1 v2 v3 : Value) (a0 a1 a2 : Option Addr) (n0 n1 n2 c0 c1 c2 : Nat) (m : Option Nat) (W : World) : (Instr.box 62 (.agg #[.slice a0 n0 c0, .slice a1 n1 c1, .slice a2 n2 c2, .map m])).run Try.prog W = .ok (.pointer (some ⟨W.heap.size, 0, none⟩)) (W.alloc (.cells #[.slice a0 n0 c0, .slice a1 n1 c1, .slice a2 n2 c2, .map m] 62)) := by kernel_rfl
theorem new32 (W : World) : (Instr.alloc 32 true (.tuple #[])).run Try.prog W = .ok (.pointer (some ⟨W.heap.size, 0, none⟩)) (W.alloc (.cells #[.int .i64 0, .int .i64 0, .int .i64 0, .int .i64 0, .int .i32 0] 32)) := by kernel_rfl
set_option maxHeartbeats 8000000 in
theorem by_asm (gp gm m : Nat) (S1 S2 S3 : Value) (f : Int → Option Int) (a0 a1 a2 a3 a4 fr key r : Int) (w : World) (hB : w.heap[gp]? = some (.cells #[S1, S2, S3, .map (some gm)] 62 (0, 0))) (hM : mapIs w gm m f) (hk : In64 key) (hr : (f key).getD 0 - fr = r) (hr1 : In32 r) :
 Calls Try.prog 38 #[.pointer (some ⟨gp, 0, none⟩), .agg #[.int .i64 a0, .int .i64 a1, .int .i64 a2, .int .i64 a3, .int .i32 a4], .int .i64 fr, .int .i64 key] w fun e w' => e = .returned (.agg #[.int .i64 a0, .int .i64 a1, .int .i64 a2, .int .i64 a3, .int .i32 r]) ∧ Below w.heap.size w w' := by
 have HB := Lib.hid hB
 have HM := Lib.hid hM
 have HR := Lib.hid hr1
 have HE := Lib.hid hr
 clear hB hM hr1 hr
 go_enter Try.func38, Try.ntmps38
 refine wp_seq_h fun K1 HK1 => ?_
 go_wp2
 have e1 : (w.alloc (.cells #[.int .i64 a0, .int .i64 a1, .int .i64 a2, .int .i64 a3, .int .i32 a4] 32)).heap.size = w.heap.size + 1 := by simp
 have hb5 := blk_alloc (blk_new w (.cells #[.int .i64 a0, .int .i64 a1, .int .i64 a2, .int .i64 a3, .int .i32 a4] 32)) (.cells #[.int .i64 0, .int .i64 0, .int .i64 0, .int .i64 0, .int .i32 0] 32)
 have hb8 := blk_new (w.alloc (.cells #[.int .i64 a0, .int .i64 a1, .int .i64 a2, .int .i64 a3, .int .i32 a4] 32)) (.cells #[.int .i64 0, .int .i64 0, .int .i64 0, .int .i64 0, .int .i32 0] 32)
 rw [e1] at hb8
 have hG : Below w.heap.size w ((w.alloc (.cells #[.int .i64 a0, .int .i64 a1, .int .i64 a2, .int .i64 a3, .int .i32 a4] 32)).alloc (.cells #[.int .i64 0, .int .i64 0, .int .i64 0, .int .i64 0, .int .i32 0] 32)) := below_alloc (below_alloc br _) _
 replace hG := And.intro hG (And.intro hb5 hb8)
 clear hb5 hb8 e1
 generalize ((w.alloc (.cells #[.int .i64 a0, .int .i64 a1, .int .i64 a2, .int .i64 a3, .int .i32 a4] 32)).alloc (.cells #[.int .i64 0, .int .i64 0, .int .i64 0, .int .i64 0, .int .i32 0] 32)) = W at hG ⊢
 refine HK1.out _ _ ?_; clear HK1
 refine wp_seq_h fun K2 HK2 => ?_
 refine wp_listed (R := fun W W' => Below W.heap.size W W') 10 [.val (.pointer (some ⟨gp, 0, none⟩)), .val (.pointer (some ⟨gp, 0, none⟩)), .val (.pointer (some ⟨gp, 3, none⟩)), .val (.map (some gm)), .val (.int .i64 key), .val (.int .i64 ((f key).getD 0)), .val (.int .i64 fr), .val (.int .i64 r), .val (.int .i32 r), .val (.pointer (some ⟨w.heap.size, 4, none⟩))] (fun W => Below w.heap.size w W ∧ W.heap[w.heap.size]? = some (.cells #[.int .i64 a0, .int .i64 a1, .int .i64 a2, .int .i64 a3, .int .i32 a4] 32 (0, 0)) ∧ W.heap[w.heap.size + 1]? = some (.cells #[.int .i64 0, .int .i64 0, .int .i64 0, .int .i64 0, .int .i32 0] 32 (0, 0))) kr hG ?_ ?_
 · intro vs W hG b hb
   have e0 : b.eval (.tmp 0) = .pointer (some ⟨gp, 0, none⟩) := eo_ hb
   have e2 : b.eval (.tmp 2) = .int .i64 fr := eo_ hb
   have e3 : b.eval (.tmp 3) = .int .i64 key := eo_ hb
   have e5 : b.eval (.tmp 5) = .pointer (some ⟨w.heap.size, 0, none⟩) := eo_ hb
   refine ai ?_ (ai ?_ (ai ?_ (ai ?_ (ai ?_ (ai ?_ (ai ?_ (ai ?_ (ai ?_ (ai ?_ (trivial))))))))))
   · exact mI hG fun hp => e0
   · exact gv rfl hG fun hp K hK => st_nilCheck rfl (ev 9 hb 0 (hp 0 kr)) hK
   · exact gv rfl hG fun hp K hK => st_field rfl (ev 10 hb 1 (hp 1 kr)) kr hK
   · exact gv rfl hG fun hp K hK => st_load rfl (ev 11 hb 2 (hp 2 kr)) (ld_cell 49 kr ((blk_cell (blk_below HB.out hG.1) 3).trans rfl)) hK
   · exact mI hG fun hp => e3
   · exact gv rfl hG fun hp K hK => st_lookup rfl (ev 12 hb 3 (hp 3 kr)) (ev 13 hb 4 (hp 4 kr)) (look (mapIs_below HM.out hG.1) hk) hK
   · exact mI hG fun hp => e2
   · exact gv rfl hG fun hp K hK => st_bin rfl (ev 14 hb 5 (hp 5 kr)) (ev 15 hb 6 (hp 6 kr)) (b_sub (by rw [HE.out]; have h := HR.out; unfold In32 at h; exact IntWalk.i64_in _ (by omega))) hK
   · exact gv rfl hG fun hp K hK => st_conv rfl (ev 16 hb 7 (hp 7 kr)) (cv32 HR.out _) hK
   · exact gv rfl hG fun hp K hK => st_field rfl (e5) kr hK
 intro vs W hG hp b hb
 have q0 : vs 0 = _ := hp 0 kd
 have q1 : vs 1 = _ := hp 1 kd
 have q2 : vs 2 = _ := hp 2 kd
 have q3 : vs 3 = _ := hp 3 kd
 have q4 : vs 4 = _ := hp 4 kd
 have q5 : vs 5 = _ := hp 5 kd
 have q6 : vs 6 = _ := hp 6 kd
 have q7 : vs 7 = _ := hp 7 kd
 have q8 : vs 8 = _ := hp 8 kd
 have q9 : vs 9 = _ := hp 9 kd
 clear hp
 simp only [fillS, Nat.reduceAdd, Nat.zero_add, q0, q1, q2, q3, q4, q5, q6, q7, q8, q9] at hb
 subst hb
 simp only [List.append_eq, List.cons_append, List.nil_append, List.drop_succ_cons, List.drop_zero]
 clear q0 q1 q2 q3 q4 q5 q6 q7 q8 q9
 have z : W.cell? ⟨w.heap.size, 4, none⟩ = some (.int .i32 a4) := (blk_cell hG.2.1 4).trans rfl
 have y := blk_frozen hG.2.1 4
 have HG := Lib.hid hG
 clear hG
 go_wp2
 have hG : Below w.heap.size w (W.setCell ⟨w.heap.size, 4, none⟩ (.int .i32 r)) ∧ (W.setCell ⟨w.heap.size, 4, none⟩ (.int .i32 r)).heap[w.heap.size]? = some (.cells #[.int .i64 a0, .int .i64 a1, .int .i64 a2, .int .i64 a3, .int .i32 r] 32 (0, 0)) ∧ (W.setCell ⟨w.heap.size, 4, none⟩ (.int .i32 r)).heap[w.heap.size + 1]? = some (.cells #[.int .i64 0, .int .i64 0, .int .i64 0, .int .i64 0, .int .i32 0] 32 (0, 0)) := ⟨below_set HG.out.1 (Nat.le_refl _), blk_put HG.out.2.1 4 _ rfl, blk_far HG.out.2.2 (by show _ ≠ w.heap.size; omega) _⟩
 clear HG z y
 generalize W.setCell ⟨w.heap.size, 4, none⟩ (.int .i32 r) = V at hG ⊢
 clear W
 refine HK2.out _ _ ?_; clear HK2
 refine wp_seq_h fun K3 HK3 => ?_
 refine wp_listed (R := fun W W' => Below W.heap.size W W') 1 [.val (.agg #[.int .i64 a0, .int .i64 a1, .int .i64 a2, .int .i64 a3, .int .i32 r])] (fun W => Below w.heap.size w W ∧ W.heap[w.heap.size]? = some (.cells #[.int .i64 a0, .int .i64 a1, .int .i64 a2, .int .i64 a3, .int .i32 r] 32 (0, 0)) ∧ W.heap[w.heap.size + 1]? = some (.cells #[.int .i64 0, .int .i64 0, .int .i64 0, .int .i64 0, .int .i32 0] 32 (0, 0))) kr hG ?_ ?_
 · intro vs W hG b hb
   have e5 : b.eval (.tmp 5) = .pointer (some ⟨w.heap.size, 0, none⟩) := eo_ hb
   refine ai ?_ (trivial)
   · exact gv rfl hG fun hp K hK => st_load rfl (e5) (ld_all 32 _ hG.2.1 Try.underlying32 rfl kr) hK
 intro vs W hG hp b hb
 have q0 : vs 0 = _ := hp 0 kd
 clear hp
 simp only [fillS, Nat.reduceAdd, Nat.zero_add, q0] at hb
 subst hb
 simp only [List.append_eq, List.cons_append, List.nil_append, List.drop_succ_cons, List.drop_zero]
 clear q0
 refine wpList_store_mid rfl 32 (.tmp 8) (.tmp 19) rfl (w.heap.size + 1) 0 #[.int .i64 a0, .int .i64 a1, .int .i64 a2, .int .i64 a3, .int .i32 r] rfl rfl (by have h := blk_there hG.2.2; exact h) kr kr ?_
 refine wpList_nil ?_
 simp only [Act.put]
 have h8 := blk_puts (cs' := #[.int .i64 a0, .int .i64 a1, .int .i64 a2, .int .i64 a3, .int .i32 r]) hG.2.2 rfl
 have hB2 := below_sets #[.int .i64 a0, .int .i64 a1, .int .i64 a2, .int .i64 a3, .int .i32 r].toList 0 w W (w.heap.size + 1) hG.1 (by omega)
 clear hG
 generalize W.setCells (w.heap.size + 1) 0 #[.int .i64 a0, .int .i64 a1, .int .i64 a2, .int .i64 a3, .int .i32 r].toList = V at h8 hB2 ⊢
 clear W
 refine HK3.out _ _ ?_; clear HK3
 have H8 := Lib.hid h8
 clear h8
 go_wp2
 refine bodyPost_ret (results_c rfl _ _ (w.heap.size + 1) 32 #[.int .i64 a0, .int .i64 a1, .int .i64 a2, .int .i64 a3, .int .i32 r] (0, 0) _ rfl H8.out Try.underlying32 rfl kr) rfl ?_
 exact ⟨rfl, hB2⟩
theorem lfxAm10 {P : Prop} (h : P := by
 have e_0 : b.eval (.tmp 0) = .int .u32 bz := eo_ hb
 have i_1 := ei_ 12 hb 0
 have i_2 := ei_ 13 hb 1
 clear hb
 refine And.intro ?_ (And.intro ?_ (And.intro ?_ (trivial)))
 · exact g0 fun hp K hK => st_move (.inl rfl) (e_0) (hK _ _ rfl hG br)
 · refine g0 fun hp K hK => ?_; have e_3 : b.eval (.tmp 12) = _ := i_1.trans (hp 0 kr); exact st_bin rfl (e_3) (eval_const _) (b_rem (by decide) hbz) (hK _ _ rfl hG br)
 · refine g0 fun hp K hK => ?_; have e_4 : b.eval (.tmp 13) = _ := i_2.trans (hp 1 kr); exact st_bin rfl (e_4) (eval_const _) b_neq (hK _ _ rfl hG br)) : P := h
set_option maxHeartbeats 8000000 in
theorem lay_bad (A : Option Addr) (c : Nat) (l : List S34) (bz : Int) (w : World) (hbz : bz.tmod 4 = 0) (hl : l.length ≤ 4000) (hI : ∀ x ∈ l, In64 x.f2) (hJ : ∀ x ∈ l, In32 x.f1.f4) (hC : Kd.C k34 w A l.length l) (ho : ¬ okL l) :
 Calls Try.prog 24 #[.int .u32 bz, .slice A l.length c] w fun e w' => ∃ k : Int, k ≠ 0 ∧ e = .returned (.tuple #[.pointer none, .int .i64 k]) ∧ Below w.heap.size w w' := by
 have HL := Lib.hid hl
 have HI := Lib.hid hI
 have HJ := Lib.hid hJ
 have HC := Lib.hid hC
 clear hl hI hJ hC
 go_enter Try.func24, Try.ntmps24
 refine wp_seq_h fun K1 HK1 => ?_
 refine wp_listed (R := fun W W' => Below W.heap.size W W') 2 [.val (Value.pointer none), .val (.int .i64 0)] (fun W => Below w.heap.size w W) kr br ?_ ?_
 · intro vs W hG b hb
   refine ai ?_ (ai ?_ (trivial))
   · exact gv rfl hG fun hp K hK => st_move (.inr rfl) (eval_const _) hK
   · exact gv rfl hG fun hp K hK => st_move (.inr rfl) (eval_const _) hK
 intro vs W hG hp b hb
 have q0 : vs 0 = _ := hp 0 kd
 have q1 : vs 1 = _ := hp 1 kd
 clear hp
 simp only [fillS, Nat.reduceAdd, Nat.zero_add, q0, q1] at hb
 subst hb
 refine wpList_nil ?_
 clear q0 q1
 refine HK1.out _ _ ?_; clear HK1
 refine wp_seq_h fun K2 HK2 => ?_
 refine wp_seq_h fun K3 HK3 => ?_
 refine wp_listed (R := fun W W' => Below W.heap.size W W') 3 [.val (.int .u32 bz), .val (.int .u32 0), .val (.bool (0 != 0))] (fun W => Below w.heap.size w W) kr hG ?_ ?_
 · intro vs W hG b hb
   exact lfxAm10
 intro vs W hG hp b hb
 have q2 : vs 2 = _ := hp 2 kd
 clear hp
 simp only [fillS, Nat.reduceAdd, Nat.zero_add, q2] at hb
 subst hb
 refine wpList_nil ?_
 clear q2
 refine HK3.out _ _ ?_; clear HK3
 apply wp_cond_false rfl
 apply wp_skip
 simp only [Exit.then]
 refine HK2.out _ _ ?_; clear HK2
 refine wp_seq_h fun K4 HK4 => ?_
 refine wp_listed (R := fun W W' => Below W.heap.size W W') 9 [.val (.slice A l.length c), errSpec (fun k => .tuple #[.slice none 0 0, .slice none 0 0, .int .i64 k]), errSpec (fun k => .tuple #[.slice none 0 0, .slice none 0 0, .int .i64 k]), .val (.slice none 0 0), .val (.slice none 0 0), errSpec (fun k => .int .i64 k), .val (.slice none 0 0), .val (.slice none 0 0), errSpec (fun k => .int .i64 k)] (fun W => Below w.heap.size w W) kr hG ?_ ?_
 · intro vs W hG b hb
   have i15 := ei_ 15 hb 2
   have e1 : b.eval (.tmp 1) = .slice A l.length c := eo_ hb
   refine ai ?_ (ai ?_ (ai ?_ (ai ?_ (ai ?_ (ai ?_ (ai ?_ (ai ?_ (ai ?_ (trivial)))))))))
   · exact mI hG fun hp => e1
   · refine g0 fun hp K hK => ?_; have e16 : b.eval (.tmp 16) = _ := ev 16 hb 0 (hp 0 kr); refine st_call rfl (by first | (simp only [List.map_toArray, List.map_cons, List.map_nil, eval_const, e16]; done) | (simp only [List.map_toArray, List.map_cons, List.map_nil, eval_const, e16]; rfl)) kr ?_; refine (layout_bad A c l _ HL.out HI.out HJ.out (Kd.C_below HC.out hG) ho).mono ?_; rintro e w' ⟨k, hk, rfl, hb'⟩; exact ⟨_, rfl, hK _ _ ⟨_, hk, rfl⟩ (below_step hG hb') hb'⟩
   · refine g0 fun hp K hK => ?_; have q1 : ∃ k : Int, k ≠ 0 ∧ (vs 1) = .tuple #[.slice none 0 0, .slice none 0 0, .int .i64 k] := hp 1 kr; obtain ⟨k, hk, hv⟩ := q1; have e17 := (ei_ 17 hb 1).trans hv; exact st_move (.inl rfl) (e17) (hK _ _ ⟨_, hk, rfl⟩ hG br)
   · refine g0 fun hp K hK => ?_; have q2 : ∃ k : Int, k ≠ 0 ∧ (vs 2) = .tuple #[.slice none 0 0, .slice none 0 0, .int .i64 k] := hp 2 kr; obtain ⟨k, hk, hv⟩ := q2; have e15 := i15.trans hv; exact st_extract rfl (e15) kr (hK _ _ rfl hG br)
   · refine g0 fun hp K hK => ?_; have q2 : ∃ k : Int, k ≠ 0 ∧ (vs 2) = .tuple #[.slice none 0 0, .slice none 0 0, .int .i64 k] := hp 2 kr; obtain ⟨k, hk, hv⟩ := q2; have e15 := i15.trans hv; exact st_extract rfl (e15) kr (hK _ _ rfl hG br)
   · refine g0 fun hp K hK => ?_; have q2 : ∃ k : Int, k ≠ 0 ∧ (vs 2) = .tuple #[.slice none 0 0, .slice none 0 0, .int .i64 k] := hp 2 kr; obtain ⟨k, hk, hv⟩ := q2; have e15 := i15.trans hv; exact st_extract rfl (e15) kr (hK _ _ ⟨_, hk, rfl⟩ hG br)
   · exact gv rfl hG fun hp K hK => st_move (.inr rfl) (ev 18 hb 3 (hp 3 kr)) hK
   · exact gv rfl hG fun hp K hK => st_move (.inr rfl) (ev 19 hb 4 (hp 4 kr)) hK
   · refine g0 fun hp K hK => ?_; have q5 : ∃ k : Int, k ≠ 0 ∧ (vs 5) = .int .i64 k := hp 5 kr; obtain ⟨k, hk, hv⟩ := q5; have e20 := (ei_ 20 hb 5).trans hv; exact st_move (.inr rfl) (e20) (hK _ _ ⟨_, hk, rfl⟩ hG br)
 intro vs W hG hp b hb
 have q0 : vs 0 = _ := hp 0 kd
 have q1 : ∃ k : Int, k ≠ 0 ∧ (vs 1) = .tuple #[.slice none 0 0, .slice none 0 0, .int .i64 k] := hp 1 kd
 have q2 : ∃ k : Int, k ≠ 0 ∧ (vs 2) = .tuple #[.slice none 0 0, .slice none 0 0, .int .i64 k] := hp 2 kd
 have q3 : vs 3 = _ := hp 3 kd
 have q4 : vs 4 = _ := hp 4 kd
 have q5 : ∃ k : Int, k ≠ 0 ∧ (vs 5) = .int .i64 k := hp 5 kd
 have q6 : vs 6 = _ := hp 6 kd
 have q7 : vs 7 = _ := hp 7 kd
 have q8 : ∃ k : Int, k ≠ 0 ∧ (vs 8) = .int .i64 k := hp 8 kd
 clear hp
 simp only [fillS, Nat.reduceAdd, Nat.zero_add, q0, q3, q4, q6, q7] at hb
 subst hb
 refine wpList_nil ?_
 clear q0 q3 q4 q6 q7
 clear q1 q2 q5
 obtain ⟨k, hk, hv⟩ := q8
 rw [hv]
 clear hv
 refine HK4.out _ _ ?_; clear HK4
 refine wp_seq_h fun K5 HK5 => ?_
 refine wp_seq_h fun K6 HK6 => ?_
 refine wp_listed (R := fun W W' => Below W.heap.size W W') 2 [.val (.int .i64 k), .val (.bool (k != 0))] (fun W => Below w.heap.size w W) kr hG ?_ ?_
 · intro vs W hG b hb
   have e8 : b.eval (.tmp 8) = .int .i64 k := eo_ hb
   refine ai ?_ (ai ?_ (trivial))
   · exact mI hG fun hp => e8
   · exact gv rfl hG fun hp K hK => st_bin rfl (ev 21 hb 0 (hp 0 kr)) (eval_const _) b_neq hK
 intro vs W hG hp b hb
 have q1 : vs 1 = _ := hp 1 kd
 clear hp
 simp only [fillS, Nat.reduceAdd, Nat.zero_add, q1] at hb
 subst hb
 refine wpList_nil ?_
 clear q1
 refine HK6.out _ _ ?_; clear HK6
 have hd : (k != 0) = true := by simpa using hk
 rw [hd]
 clear hd
 apply wp_cond_true rfl
 have HG := Lib.hid hG
 clear hG
 go_wp2
 have HG := HG.out
 first | go_ret2 | (rw [Exit.noGoto_ret]; go_ret2)
 exact ⟨k, hk, rfl, HG⟩
set_option maxHeartbeats 16000000 in
theorem lay_good (A : Option Addr) (c : Nat) (l : List S34) (bz : Int) (w : World) (hbz : bz.tmod 4 = 0) (hl : l.length ≤ 4000) (hI : ∀ x ∈ l, In64 x.f2) (hJ : ∀ x ∈ l, In32 x.f1.f4) (hC : Kd.C k34 w A l.length l) (ho : okL l) :
 Calls Try.prog 24 #[.int .u32 bz, .slice A l.length c] w fun e w' => ∃ far adb cb gf gm gp, e = .returned (.tuple #[.pointer (some ⟨gp, 0, none⟩), .int .i64 0]) ∧ LD l far A c adb cb gf gm gp w' ∧ Below w.heap.size w w' := by
 have HL := Lib.hid hl
 have HI := Lib.hid hI
 have HJ := Lib.hid hJ
 have HC := Lib.hid hC
 clear hl hI hJ hC
 go_enter Try.func24, Try.ntmps24
 refine wp_seq_h fun K1 HK1 => ?_
 refine wp_listed (R := fun W W' => Below W.heap.size W W') 2 [.val (Value.pointer none), .val (.int .i64 0)] (fun W => Below w.heap.size w W) kr br ?_ ?_
 · intro vs W hG b hb
   refine ai ?_ (ai ?_ (trivial))
   · exact gv rfl hG fun hp K hK => st_move (.inr rfl) (eval_const _) hK
   · exact gv rfl hG fun hp K hK => st_move (.inr rfl) (eval_const _) hK
 intro vs W hG hp b hb
 have q0 : vs 0 = _ := hp 0 kd
 have q1 : vs 1 = _ := hp 1 kd
 clear hp
 simp only [fillS, Nat.reduceAdd, Nat.zero_add, q0, q1] at hb
 subst hb
 refine wpList_nil ?_
 clear q0 q1
 refine HK1.out _ _ ?_; clear HK1
 refine wp_seq_h fun K2 HK2 => ?_
 refine wp_seq_h fun K3 HK3 => ?_
 refine wp_listed (R := fun W W' => Below W.heap.size W W') 3 [.val (.int .u32 bz), .val (.int .u32 0), .val (.bool (0 != 0))] (fun W => Below w.heap.size w W) kr hG ?_ ?_
 · intro vs W hG b hb
   exact lfxAm10
 intro vs W hG hp b hb
 have q2 : vs 2 = _ := hp 2 kd
 clear hp
 simp only [fillS, Nat.reduceAdd, Nat.zero_add, q2] at hb
 subst hb
 refine wpList_nil ?_
 clear q2
 refine HK3.out _ _ ?_; clear HK3
 apply wp_cond_false rfl
 apply wp_skip
 simp only [Exit.then]
 refine HK2.out _ _ ?_; clear HK2
 refine wp_seq_h fun K4 HK4 => ?_
 refine wp_listed (R := fun W W' => Below W.heap.size W W') 2 [.val (.slice A l.length c), layS (l)] (fun W => Below w.heap.size w W) kr hG ?_ ?_
 · intro vs W hG b hb
   have e1 : b.eval (.tmp 1) = .slice A l.length c := eo_ hb
   refine ai ?_ (ai ?_ (trivial))
   · exact mI hG fun hp => e1
   · refine g0 fun hp K hK => ?_; have e16 : b.eval (.tmp 16) = _ := ev 16 hb 0 (hp 0 kr); refine st_call rfl (by first | (simp only [List.map_toArray, List.map_cons, List.map_nil, eval_const, e16]; done) | (simp only [List.map_toArray, List.map_cons, List.map_nil, eval_const, e16]; rfl)) kr ?_; refine (layout_good A c l _ HL.out HI.out HJ.out (Kd.C_below HC.out hG) ho).mono ?_; rintro e w' ⟨far, adb, cb, gf, rfl, h1, h2, hb'⟩; have hP : layP l far adb cb gf w' := ⟨h1, h2⟩; exact ⟨_, rfl, hK _ _ ⟨_, _, _, _, rfl, hP⟩ (below_step hG hb') hb'⟩
 intro vs W hG hp b hb
 have q0 : vs 0 = _ := hp 0 kd
 have q1 : ∃ far adb cb gf, (vs 1) = layV (l) adb cb gf ∧ layP (l) far adb cb gf W := hp 1 kd
 clear hp
 simp only [fillS, Nat.reduceAdd, Nat.zero_add, q0] at hb
 subst hb
 simp only [List.append_eq, List.cons_append, List.nil_append, List.drop_succ_cons, List.drop_zero]
 clear q0
 obtain ⟨far, adb, cb, gf, hv, hP⟩ := q1
 rw [hv]
 clear hv
 unfold layV
 obtain ⟨W0, hW0⟩ : ∃ W0, W0 = W := ⟨W, rfl⟩
 have HP := Lib.hid (show layP l far adb cb gf W0 by rw [hW0]; exact hP)
 have HW := Lib.hid (show Below w.heap.size w W0 by rw [hW0]; exact hG)
 clear hG hP
 have hG : Below W0.heap.size W0 W := by rw [hW0]; exact Below.refl _ _
 clear hW0
 have HC := Lib.hid (Kd.C_below HC.out HW.out)
 have HGG := Lib.hid hG
 clear hG
 go_wp2
 have hG := HGG.out
 clear HGG
 refine HK4.out _ _ ?_; clear HK4
 refine wp_seq_h fun K5 HK5 => ?_
 refine wp_seq_h fun K6 HK6 => ?_
 refine wp_listed (R := fun W W' => Below W.heap.size W W') 2 [.val (.int .i64 0), .val (.bool (0 != 0))] (fun W => Below W0.heap.size W0 W) kr hG ?_ ?_
 · intro vs W hG b hb
   have e8 : b.eval (.tmp 8) = .int .i64 0 := eo_ hb
   refine ai ?_ (ai ?_ (trivial))
   · exact mI hG fun hp => e8
   · exact gv rfl hG fun hp K hK => st_bin rfl (ev 21 hb 0 (hp 0 kr)) (eval_const _) b_neq hK
 intro vs W hG hp b hb
 have q1 : vs 1 = _ := hp 1 kd
 clear hp
 simp only [fillS, Nat.reduceAdd, Nat.zero_add, q1] at hb
 subst hb
 refine wpList_nil ?_
 clear q1
 refine HK6.out _ _ ?_; clear HK6
 apply wp_cond_false rfl
 apply wp_skip
 simp only [Exit.then]
 refine HK5.out _ _ ?_; clear HK5
 refine wp_seq_h fun K7 HK7 => ?_
 refine wp_listed (R := fun W W' => Below W.heap.size W W') 2 [mapSpec 0 (fun _ => none) W0.heap.size, mapSpec 0 (fun _ => none) W0.heap.size] (fun W => Below W0.heap.size W0 W) kr hG ?_ ?_
 · intro vs W hG b hb
   refine ai ?_ (ai ?_ (trivial))
   · exact g0 fun hp K hK => st_makeMap rfl (run_makeMap _ _) (hK _ _ ⟨_, rfl, mapIs_new _, hG.size⟩ (hG.alloc hG.size _) (br.alloc (Nat.le_refl _) _))
   · refine g0 fun hp K hK => ?_; have q0 : ∃ g, (vs 0) = .map (some g) ∧ mapIs W g 0 (fun _ => none) ∧ W0.heap.size ≤ g := hp 0 kr; obtain ⟨gm, hv, hm, hgm⟩ := q0; have e24 := (ei_ 24 hb 0).trans hv; exact st_move (.inr rfl) (e24) (hK _ _ ⟨_, rfl, hm, hgm⟩ hG br)
 intro vs W hG hp b hb
 have q0 : ∃ g, (vs 0) = .map (some g) ∧ mapIs W g 0 (fun _ => none) ∧ W0.heap.size ≤ g := hp 0 kd
 have q1 : ∃ g, (vs 1) = .map (some g) ∧ mapIs W g 0 (fun _ => none) ∧ W0.heap.size ≤ g := hp 1 kd
 clear hp
 simp only [fillS, Nat.reduceAdd, Nat.zero_add] at hb
 subst hb
 refine wpList_nil ?_
 clear q0
 obtain ⟨gm, hv, hm, hgm⟩ := q1
 rw [hv]
 clear hv
 replace hG : Below W0.heap.size W0 W ∧ mapIs W gm 0 (flab l far 0) := ⟨hG, by rw [flab_zero]; exact hm⟩
 clear hm
 refine HK7.out _ _ ?_; clear HK7
 refine wp_seq_h fun K8 HK8 => ?_
 refine wp_seq_h fun K9 HK9 => ?_
 refine wp_listed (R := fun W W' => Below W.heap.size W W') 3 [.val (.slice A l.length c), .val (.int .i64 (l.length : Int)), .val (.int .i64 0)] (fun W => Below W0.heap.size W0 W ∧ mapIs W gm 0 (flab l far 0)) kr hG ?_ ?_
 · intro vs W hG b hb
   have e1 : b.eval (.tmp 1) = .slice A l.length c := eo_ hb
   refine ai ?_ (ai ?_ (ai ?_ (trivial)))
   · exact mI hG fun hp => e1
   · refine g0 fun hp K hK => ?_; have e25 : b.eval (.tmp 25) = _ := ev 25 hb 0 (hp 0 kr); exact st_builtin rfl (by first | (simp only [List.map_toArray, List.map_cons, List.map_nil, eval_const, e25]; done) | (simp only [List.map_toArray, List.map_cons, List.map_nil, eval_const, e25]; rfl)) (fun cs => b_len 23 (by decide) cs _) (hK _ _ rfl hG br)
   · exact mI hG fun hp => eval_const _
 intro vs W hG hp b hb
 have q0 : vs 0 = _ := hp 0 kd
 have q1 : vs 1 = _ := hp 1 kd
 have q2 : vs 2 = _ := hp 2 kd
 clear hp
 simp only [fillS, Nat.reduceAdd, Nat.zero_add, q0, q1, q2] at hb
 subst hb
 refine wpList_nil ?_
 clear q0 q1 q2
 refine HK9.out _ _ ?_; clear HK9
 apply wp_block
 refine wp_loopS [10, 11, 27, 28, 29, 30, 31, 32, 33, 34, 35, 36, 37, 38, 39, 40, 41, 42] (fun sl W => ∃ i : Nat, sl 27 = .int .i64 (i : Int) ∧ i ≤ l.length ∧ Below W0.heap.size W0 W ∧ mapIs W gm i (flab l far i)) (fun sl W => Msr (l.length : Int) (sl 27)) ⟨0, rfl, Nat.zero_le _, hG⟩ ?_
 clear hG
 intro vs W b' hb' hI
 obtain ⟨i, hsl, hi, hG⟩ := hI
 simp only [setSlots, Act.put, List.setIfInBounds_toArray, List.set_cons_succ, List.set_cons_zero] at hb'
 subst hb'
 replace hsl : vs 27 = .int .i64 (i : Int) := hsl
 rw [hsl]
 clear hsl
 refine wp_seq_h fun K10 HK10 => ?_
 refine wp_listed (R := fun W W' => Below W.heap.size W W') 1 [.val (.bool (decide ((i : Int) < (l.length : Int))))] (fun W => Below W0.heap.size W0 W ∧ mapIs W gm i (flab l far i)) kr hG ?_ ?_
 · intro vs W hG b hb
   have e26 : b.eval (.tmp 26) = .int .i64 (l.length : Int) := eo_ hb
   have e27 : b.eval (.tmp 27) = .int .i64 (i : Int) := eo_ hb
   refine ai ?_ (trivial)
   · exact gv rfl hG fun hp K hK => st_bin rfl (e27) (e26) b_lss hK
 intro vs W hG hp b hb
 have q0 : vs 0 = _ := hp 0 kd
 clear hp
 simp only [fillS, Nat.reduceAdd, Nat.zero_add, q0] at hb
 subst hb
 refine wpList_nil ?_
 clear q0
 refine HK10.out _ _ ?_; clear HK10
 refine wp_seq_h fun K11 HK11 => ?_
 refine wp_cond_split rfl (fun hlt => ?_) (fun hlt => ?_)
 rotate_left
 · have hle : i = l.length := by have := of_decide_eq_false hlt; omega
   clear hlt
   apply wp_exit
   simp only [Exit.inBlock, Exit.then, ↓reduceIte]
   subst hle
   clear hi
   refine HK8.out _ _ ?_; clear HK8
   refine wp_seq_h fun K12 HK12 => ?_
   refine wp_listed (R := fun W W' => Below W.heap.size W W') 8 [.val (.slice A l.length c), .val (.slice (some adb) (l.length + 1) cb), .val (.slice (some ⟨gf, 0, none⟩) l.length l.length), .val (.map (some gm)), .val (.agg #[.slice A l.length c, .slice (some adb) (l.length + 1) cb, .slice (some ⟨gf, 0, none⟩) l.length l.length, .map (some gm)]), ⟨fun v W => ∃ gp, v = .pointer (some ⟨gp, 0, none⟩) ∧ W.heap[gp]? = some (.cells #[.slice A l.length c, .slice (some adb) (l.length + 1) cb, .slice (some ⟨gf, 0, none⟩) l.length l.length, .map (some gm)] 62 (0, 0)), fun _ _ _ ⟨gp, h1, h2⟩ hb => ⟨gp, h1, blk_below h2 hb⟩⟩, ⟨fun v W => ∃ gp, v = .pointer (some ⟨gp, 0, none⟩) ∧ W.heap[gp]? = some (.cells #[.slice A l.length c, .slice (some adb) (l.length + 1) cb, .slice (some ⟨gf, 0, none⟩) l.length l.length, .map (some gm)] 62 (0, 0)), fun _ _ _ ⟨gp, h1, h2⟩ hb => ⟨gp, h1, blk_below h2 hb⟩⟩, .val (.int .i64 0)] (fun W => Below W0.heap.size W0 W ∧ mapIs W gm l.length (flab l far l.length)) kr hG ?_ ?_
   · intro vs W hG b hb
     have e1 : b.eval (.tmp 1) = .slice A l.length c := eo_ hb
     have e6 : b.eval (.tmp 6) = .slice (some adb) (l.length + 1) cb := eo_ hb
     have e7 : b.eval (.tmp 7) = .slice (some ⟨gf, 0, none⟩) l.length l.length := eo_ hb
     have e9 : b.eval (.tmp 9) = .map (some gm) := eo_ hb
     refine ai ?_ (ai ?_ (ai ?_ (ai ?_ (ai ?_ (ai ?_ (ai ?_ (ai ?_ (trivial))))))))
     · exact mI hG fun hp => e1
     · exact mI hG fun hp => e6
     · exact mI hG fun hp => e7
     · exact mI hG fun hp => e9
     · refine g0 fun hp K hK => ?_; have e43 : b.eval (.tmp 43) = _ := ev 43 hb 0 (hp 0 kr); have e44 : b.eval (.tmp 44) = _ := ev 44 hb 1 (hp 1 kr); have e45 : b.eval (.tmp 45) = _ := ev 45 hb 2 (hp 2 kr); have e46 : b.eval (.tmp 46) = _ := ev 46 hb 3 (hp 3 kr); exact st_build rfl (by first | (simp only [List.map_toArray, List.map_cons, List.map_nil, eval_const, e43, e44, e45, e46]; done) | (simp only [List.map_toArray, List.map_cons, List.map_nil, eval_const, e43, e44, e45, e46]; rfl)) kr (hK _ _ rfl hG br)
     · exact g0 fun hp K hK => st_box rfl (ev 47 hb 4 (hp 4 kr)) (box62 (.slice none 0 0) (.slice none 0 0) (.slice none 0 0) (.slice none 0 0) _ _ _ _ _ _ _ _ _ _ _) (hK _ _ ⟨_, rfl, blk_new _ _⟩ ⟨hG.1.alloc hG.1.size _, mapIs_alloc hG.2 _⟩ (br.alloc (Nat.le_refl _) _))
     · refine g0 fun hp K hK => ?_; have q5 : ∃ gp, (vs 5) = .pointer (some ⟨gp, 0, none⟩) ∧ W.heap[gp]? = some (.cells #[.slice A l.length c, .slice (some adb) (l.length + 1) cb, .slice (some ⟨gf, 0, none⟩) l.length l.length, .map (some gm)] 62 (0, 0)) := hp 5 kr; obtain ⟨gp, hv, hg⟩ := q5; have e48 := (ei_ 48 hb 5).trans hv; exact st_move (.inr rfl) (e48) (hK _ _ ⟨_, rfl, hg⟩ hG br)
     · exact gv rfl hG fun hp K hK => st_move (.inr rfl) (eval_const _) hK
   intro vs W hG hp b hb
   have q0 : vs 0 = _ := hp 0 kd
   have q1 : vs 1 = _ := hp 1 kd
   have q2 : vs 2 = _ := hp 2 kd
   have q3 : vs 3 = _ := hp 3 kd
   have q4 : vs 4 = _ := hp 4 kd
   have q5 : ∃ gp, (vs 5) = .pointer (some ⟨gp, 0, none⟩) ∧ W.heap[gp]? = some (.cells #[.slice A l.length c, .slice (some adb) (l.length + 1) cb, .slice (some ⟨gf, 0, none⟩) l.length l.length, .map (some gm)] 62 (0, 0)) := hp 5 kd
   have q6 : ∃ gp, (vs 6) = .pointer (some ⟨gp, 0, none⟩) ∧ W.heap[gp]? = some (.cells #[.slice A l.length c, .slice (some adb) (l.length + 1) cb, .slice (some ⟨gf, 0, none⟩) l.length l.length, .map (some gm)] 62 (0, 0)) := hp 6 kd
   have q7 : vs 7 = _ := hp 7 kd
   clear hp
   simp only [fillS, Nat.reduceAdd, Nat.zero_add, q0, q1, q2, q3, q4, q7] at hb
   subst hb
   refine wpList_nil ?_
   clear q0 q1 q2 q3 q4 q7
   clear q5
   obtain ⟨gp, hv, hg⟩ := q6
   rw [hv]
   clear hv
   refine HK12.out _ _ ?_; clear HK12
   have HG := Lib.hid hG
   have Hg := Lib.hid hg
   clear hG hg
   go_wp2
   first | go_ret2 | (rw [Exit.noGoto_ret]; go_ret2)
   exact ⟨far, adb, cb, gf, gm, gp, rfl, ⟨Hg.out, Kd.C_below HC.out HG.out.1, layP_below HP.out HG.out.1, HG.out.2⟩, below_step HW.out HG.out.1⟩
 have hil : i < l.length := by have := of_decide_eq_true hlt; omega
 clear hlt
 apply wp_skip
 simp only [Exit.then]
 refine HK11.out _ _ ?_; clear HK11
 have hx : l[i]? = some l[i] := List.getElem?_eq_getElem hil
 have hxm := List.getElem_mem hil
 generalize l[i] = x at hx hxm
 have hgx : l.getD i z34 = x := by simp [List.getD, hx]
 obtain ⟨ad, hAd, -⟩ := ld_it (Kd.C_below HC.out hG.1) hx
 subst hAd
 refine wp_seq_h fun K13 HK13 => ?_
 apply wp_block
 refine wp_seq_h fun K14 HK14 => ?_
 refine wp_listed (R := fun W W' => Below W.heap.size W W') 5 [.val (.int .i64 (i : Int)), .val (.pointer (some (ad.add (i * 7)))), .val (.agg (it x)), newSpec (.cells (it z34) 34 (0, 0)) (gm + 1), .val (.int .i64 (i : Int))] (fun W => Below W0.heap.size W0 W ∧ mapIs W gm i (flab l far i)) kr hG ?_ ?_
 · intro vs W hG b hb
   have e25 : b.eval (.tmp 25) = .slice (some ad) l.length c := eo_ hb
   have e27 : b.eval (.tmp 27) = .int .i64 (i : Int) := eo_ hb
   refine ai ?_ (ai ?_ (ai ?_ (ai ?_ (ai ?_ (trivial)))))
   · exact mI hG fun hp => e27
   · exact gv rfl hG fun hp K hK => st_index rfl (e25) (e27) (ix23 hil _) hK
   · exact gv rfl hG fun hp K hK => st_load rfl (ev 30 hb 1 (hp 1 kr)) (m_43) hK
   · exact g0 fun hp K hK => st_alloc rfl (new34 _) (hK _ _ ⟨_, rfl, blk_new _ _, mapIs_lt hG.2⟩ ⟨hG.1.alloc hG.1.size _, mapIs_alloc hG.2 _⟩ (br.alloc (Nat.le_refl _) _))
   · exact gv rfl hG fun hp K hK => st_move (.inr rfl) (ev 29 hb 0 (hp 0 kr)) hK
 intro vs W hG hp b hb
 have q0 : vs 0 = _ := hp 0 kd
 have q1 : vs 1 = _ := hp 1 kd
 have q2 : vs 2 = _ := hp 2 kd
 have q3 : ∃ gg, (vs 3) = .pointer (some ⟨gg, 0, none⟩) ∧ W.heap[gg]? = some (.cells (it z34) 34 (0, 0)) ∧ gm + 1 ≤ gg := hp 3 kd
 have q4 : vs 4 = _ := hp 4 kd
 clear hp
 simp only [fillS, Nat.reduceAdd, Nat.zero_add, q0, q1, q2, q4] at hb
 subst hb
 simp only [List.append_eq, List.cons_append, List.nil_append, List.drop_succ_cons, List.drop_zero]
 clear q0 q1 q2 q4
 obtain ⟨gx, hv, Ax, hg⟩ := q3
 rw [hv]
 clear hv
 refine wpList_store_mid rfl 34 (.tmp 11) (.tmp 31) rfl gx 0 (it x) rfl rfl (by have h := blk_there Ax; exact h) kr kr ?_
 refine wpList_nil ?_
 simp only [Act.put]
 have hG2 : (Below W0.heap.size W0 (W.setCells gx 0 (it x).toList) ∧ mapIs (W.setCells gx 0 (it x).toList) gm i (flab l far i)) ∧ (W.setCells gx 0 (it x).toList).heap[gx]? = some (.cells (it x) 34 (0, 0)) := ⟨⟨below_sets _ 0 W0 W gx hG.1 (by omega), mapIs_sets hG.2 (by omega) 0⟩, blk_puts (cs' := it x) Ax rfl⟩
 clear Ax hG
 generalize W.setCells gx 0 (it x).toList = V at hG2 ⊢
 clear W
 refine HK14.out _ _ ?_; clear HK14
 refine wp_seq_h fun K15 HK15 => ?_
 refine wp_listed (R := fun W W' => Below W.heap.size W W') 3 [.val (.pointer (some ⟨gx, 0, none⟩)), .val (.int .i64 x.f0), .val (.bool (x.f0 == 2))] (fun W => (Below W0.heap.size W0 W ∧ mapIs W gm i (flab l far i)) ∧ W.heap[gx]? = some (.cells (it x) 34 (0, 0))) kr hG2 ?_ ?_
 · intro vs W hG b hb
   have e11 : b.eval (.tmp 11) = .pointer (some ⟨gx, 0, none⟩) := eo_ hb
   refine ai ?_ (ai ?_ (ai ?_ (trivial)))
   · exact gv rfl hG fun hp K hK => st_field rfl (e11) kr hK
   · exact gv rfl hG fun hp K hK => st_load rfl (ev 32 hb 0 (hp 0 kr)) (ld_cell 3 kr ((blk_cell hG.2 0).trans rfl)) hK
   · exact gv rfl hG fun hp K hK => st_bin rfl (ev 33 hb 1 (hp 1 kr)) (eval_const _) b_eql hK
 intro vs W hG hp b hb
 have q2 : vs 2 = _ := hp 2 kd
 clear hp
 simp only [fillS, Nat.reduceAdd, Nat.zero_add, q2] at hb
 subst hb
 refine wpList_nil ?_
 clear q2
 clear hG2
 refine HK15.out _ _ ?_; clear HK15
 have hinc : IntKind.i64.wrap ((i : Int) + 1) = (i : Int) + 1 := IntWalk.i64_in _ (m_55)
 refine wp_cond_split rfl (fun hk => ?_) (fun hk => ?_)
 rotate_left
 · have hk2 : x.f0 ≠ 2 := by simpa using hk
   clear hk
   apply wp_skip
   simp only [Exit.inBlock, Exit.then, ↓reduceIte]
   refine HK13.out _ _ ?_; clear HK13
   have HG := Lib.hid hG.1
   have Hil := Lib.hid hil
   clear hG hil hi
   go_wp2
   exact ⟨loop_frame kr, ⟨i + 1, m_56, Hil.out, HG.out.1, by rw [flab_skip (by rw [hgx]; exact hk2)]; exact mapIs_mono HG.out.2 (by omega)⟩, Msr.lt (by have := Hil.out; omega)⟩
 have hk2 : x.f0 = 2 := by simpa using hk
 clear hk
 have hbi := beg_in l far i
 refine wp_drawn (R := fun W W' => Below W.heap.size W W') 7 [.val (.map (some gm)), .val (.pointer (some ⟨gx, 6, none⟩)), .val (.int .i64 x.f2), .val (.slice (some adb) (l.length + 1) cb), .val (.int .i64 (i : Int)), .val (.pointer (some (adb.add i))), .val (.int .i64 (beg l far i))] (fun W => (Below W0.heap.size W0 W ∧ mapIs W gm i (flab l far i)) ∧ W.heap[gx]? = some (.cells (it x) 34 (0, 0))) rfl kr ⟨⟨hG.1.1.drew, hG.1.2⟩, hG.2⟩ ?_ ?_
 · intro vs W hG b hb
   have e6 : b.eval (.tmp 6) = .slice (some adb) (l.length + 1) cb := eo_ hb
   have e9 : b.eval (.tmp 9) = .map (some gm) := eo_ hb
   have e10 : b.eval (.tmp 10) = .int .i64 (i : Int) := eo_ hb
   have e11 : b.eval (.tmp 11) = .pointer (some ⟨gx, 0, none⟩) := eo_ hb
   refine ai ?_ (ai ?_ (ai ?_ (ai ?_ (ai ?_ (ai ?_ (ai ?_ (trivial)))))))
   · exact mI hG fun hp => e9
   · exact gv rfl hG fun hp K hK => st_field rfl (e11) kr hK
   · exact gv rfl hG fun hp K hK => st_load rfl (ev 36 hb 1 (hp 1 kr)) (ld_cell 3 kr ((blk_cell hG.2 6).trans rfl)) hK
   · exact mI hG fun hp => e6
   · exact mI hG fun hp => e10
   · exact gv rfl hG fun hp K hK => st_index rfl (ev 38 hb 3 (hp 3 kr)) (ev 39 hb 4 (hp 4 kr)) (ix25n (Nat.lt_succ_of_lt hil) _) hK
   · exact gv rfl hG fun hp K hK => st_load rfl (ev 40 hb 5 (hp 5 kr)) (by obtain ⟨a', ha', hl'⟩ := ld_beg (Kd.C_below HP.out.1.2.1 hG.1.1) (Nat.lt_succ_of_lt hil); rw [Option.some.inj ha']; exact ld_cell 3 kr hl') hK
 intro vs W hG hp b hb
 have q0 : vs 0 = _ := hp 0 kd
 have q1 : vs 1 = _ := hp 1 kd
 have q2 : vs 2 = _ := hp 2 kd
 have q3 : vs 3 = _ := hp 3 kd
 have q4 : vs 4 = _ := hp 4 kd
 have q5 : vs 5 = _ := hp 5 kd
 have q6 : vs 6 = _ := hp 6 kd
 clear hp
 simp only [fillS, Nat.reduceAdd, Nat.zero_add, q0, q1, q2, q3, q4, q5, q6] at hb
 subst hb
 simp only [List.append_eq, List.cons_append, List.nil_append, List.drop_succ_cons, List.drop_zero]
 clear q0 q1 q2 q3 q4 q5 q6
 refine wpList_put rfl (.tmp 35) (.tmp 37) (.tmp 41) rfl rfl rfl rfl hG.1.2 (HI.out _ hxm) (by have := HL.out; unfold In64; omega) (by have := HL.out; unfold maxLen; omega) ?_
 intro W1 hm1 hgr
 refine wpList_nil ?_
 simp only [Act.put]
 have hG3 : Below W0.heap.size W0 W1 := hG.1.1.grown hgr hG.1.1.size (fun j hj => by cases hj; exact hgm)
 clear hG
 refine HK13.out _ _ ?_; clear HK13
 have HG := Lib.hid hG3
 have Hm := Lib.hid hm1
 have Hil := Lib.hid hil
 clear hG3 hm1 hil hi hgr
 go_wp2
 exact ⟨loop_frame kr, ⟨i + 1, m_56, Hil.out, HG.out, by have h := flab_put (far := far) (l := l) (m := i) (by rw [hgx]; exact hk2); rw [← h, hgx]; exact Hm.out⟩, Msr.lt (by have := Hil.out; omega)⟩
end Go.Proofs.Ytihecimbhhlhaaa.Rl
