/- Labels of items: where each stands. -/
import Derived.Test.YtihecimbhhlhaaaRl1
import Derived.Test.YtihecimbhhlhaaaRsMc
namespace Go.Proofs.Ytihecimbhhlhaaa.Rl
open Go.RowKit Dr PRs
open Go.Proofs.YtihecimbhhlhaaaW.PrintWords (Kd Kd.C Kd.R Kd.C_below Kd.C_get Kd.R_below Kd.R_reads Kd.R_reads' Kd.R_types Kd.R_step Kd.R_alloc Kd.R_drew Kd.R_lower add_field)
set_option linter.unusedVariables false
set_option linter.unusedSimpArgs false
set_option maxRecDepth 100000
/-- A map of the call's own. -/
def mapSpec (m : Nat) (f : Int → Option Int) (g0 : Nat) : DSpec (fun W W' => Below W.heap.size W W') := ⟨fun v W => ∃ g, v = .map (some g) ∧ mapIs W g m f ∧ g0 ≤ g, fun _ _ _ ⟨g, h1, h2, h3⟩ hb => ⟨g, h1, mapIs_below h2 hb, h3⟩⟩
theorem wpList_put {ops : Array Oper} {rest : List Oper} {o : Oper} {a : Act} {W : World} {Q : Exit → Act → World → Prop} {b n : Nat} {f : Int → Option Int} {key val : Int} (hg : o.guard = none) (m x v : Operand) (hop : o.op = .mapUpdate 49 m x v)
 (hm : a.eval m = .map (some b)) (hx : a.eval x = .int .i64 key) (hv : a.eval v = .int .i64 val) (h : mapIs W b n f) (hk : In64 key) (hw : In64 val) (hn : n < maxLen)
 (hK : ∀ W', mapIs W' b (n + 1) (fput f key val) → W.grownBy W' (some b) → wpList Try.prog ops Q rest (a.put o.dst undef) W') : wpList Try.prog ops Q (o :: rest) a W := by
 refine wpList_plain hg fun K' hK' => ?_
 obtain ⟨W', hrun, r1, r2⟩ := map_put h hk hw hn
 unfold Oper.wp
 simp [execOp, hop, hm, hx, hv, hrun, Result.andThen]
 exact hK' _ _ (hK W' r1 r2)
set_option maxHeartbeats 8000000 in
theorem labels_is (A : Option Addr) (c : Nat) (l : List S34) (w : World) (hl : l.length ≤ 262144) (hI : ∀ x ∈ l, In64 x.f2) (hC : Kd.C k34 w A l.length l) :
 Calls Try.prog 33 #[.slice A l.length c] w fun e w' => Below w.heap.size w w' ∧ ((e = .returned (.tuple #[.map none, .bool false]) ∧ ¬ uniq l l.length) ∨ (∃ g, e = .returned (.tuple #[.map (some g), .bool true]) ∧ uniq l l.length ∧ w.heap.size ≤ g ∧ mapIs w' g l.length (lab l l.length))) := by
 have HL := Lib.hid hl
 have HI := Lib.hid hI
 have HC := Lib.hid hC
 clear hl hI hC
 go_enter Try.func33, Try.ntmps33
 refine wp_seq_h fun K1 HK1 => ?_
 refine wp_listed (R := fun W W' => Below W.heap.size W W') 2 [.val (Value.map none), .val (.bool false)] (fun W => Below w.heap.size w W) kr br ?_ ?_
 · intro vs W hG b hb
   refine ai ?_ (ai ?_ (trivial))
   · exact gv rfl hG fun hp K hK => st_move (.inr rfl) (eval_const _) hK
   · exact gv rfl hG fun hp K hK => st_move (.inr rfl) (eval_const _) hK
 intro vs W hG hp b hb
 have q0 : vs 0 = _ := hp 0 kd
 have q1 : vs 1 = _ := hp 1 kd
 clear hp
 simp only [fillS, Nat.reduceAdd, Nat.zero_add, q0, q1] at hb
 subst hb
 refine wpList_nil ?_
 clear q0 q1
 refine HK1.out _ _ ?_; clear HK1
 refine wp_seq_h fun K2 HK2 => ?_
 refine wp_listed (R := fun W W' => Below W.heap.size W W') 2 [mapSpec 0 (fun _ => none) w.heap.size, mapSpec 0 (fun _ => none) w.heap.size] (fun W => Below w.heap.size w W) kr hG ?_ ?_
 · intro vs W hG b hb
   refine ai ?_ (ai ?_ (trivial))
   · exact g0 fun hp K hK => st_makeMap rfl (run_makeMap _ _) (hK _ _ ⟨_, rfl, mapIs_new _, hG.size⟩ (hG.alloc hG.size _) (br.alloc (Nat.le_refl _) _))
   · refine g0 fun hp K hK => ?_; have q0 : ∃ g, (vs 0) = .map (some g) ∧ mapIs W g 0 (fun _ => none) ∧ w.heap.size ≤ g := hp 0 kr; obtain ⟨gm, hv, hm, hgm⟩ := q0; have e9 := (ei_ 9 hb 0).trans hv; exact st_move (.inr rfl) (e9) (hK _ _ ⟨_, rfl, hm, hgm⟩ hG br)
 intro vs W hG hp b hb
 have q0 : ∃ g, (vs 0) = .map (some g) ∧ mapIs W g 0 (fun _ => none) ∧ w.heap.size ≤ g := hp 0 kd
 have q1 : ∃ g, (vs 1) = .map (some g) ∧ mapIs W g 0 (fun _ => none) ∧ w.heap.size ≤ g := hp 1 kd
 clear hp
 simp only [fillS, Nat.reduceAdd, Nat.zero_add] at hb
 subst hb
 refine wpList_nil ?_
 clear q0
 obtain ⟨gm, hv, hm, hgm⟩ := q1
 rw [hv]
 clear hv
 refine HK2.out _ _ ?_; clear HK2
 refine wp_seq_h fun K3 HK3 => ?_
 refine wp_seq_h fun K4 HK4 => ?_
 refine wp_listed (R := fun W W' => Below W.heap.size W W') 3 [.val (.slice A l.length c), .val (.int .i64 (l.length : Int)), .val (.int .i64 0)] (fun W => Below w.heap.size w W ∧ mapIs W gm 0 (fun _ => none)) kr ⟨hG, hm⟩ ?_ ?_
 · intro vs W hG b hb
   have e0 : b.eval (.tmp 0) = .slice A l.length c := eo_ hb
   refine ai ?_ (ai ?_ (ai ?_ (trivial)))
   · exact mI hG fun hp => e0
   · refine g0 fun hp K hK => ?_; have e10 : b.eval (.tmp 10) = _ := ev 10 hb 0 (hp 0 kr); exact st_builtin rfl (by first | (simp only [List.map_toArray, List.map_cons, List.map_nil, eval_const, e10]; done) | (simp only [List.map_toArray, List.map_cons, List.map_nil, eval_const, e10]; rfl)) (fun cs => b_len 23 (by decide) cs _) (hK _ _ rfl hG br)
   · exact mI hG fun hp => eval_const _
 intro vs W hG hp b hb
 have q0 : vs 0 = _ := hp 0 kd
 have q1 : vs 1 = _ := hp 1 kd
 have q2 : vs 2 = _ := hp 2 kd
 clear hp
 simp only [fillS, Nat.reduceAdd, Nat.zero_add, q0, q1, q2] at hb
 subst hb
 refine wpList_nil ?_
 clear q0 q1 q2
 clear hm
 refine HK4.out _ _ ?_; clear HK4
 apply wp_block
 refine wp_loopS [5, 6, 7, 8, 12, 13, 14, 15, 16, 17, 18, 19, 20, 21, 22, 23, 24, 25, 26, 27, 28, 29, 30, 31, 32] (fun sl W => ∃ i : Nat, sl 12 = .int .i64 (i : Int) ∧ (i ≤ l.length ∧ uniq l i) ∧ Below w.heap.size w W ∧ mapIs W gm i (lab l i)) (fun sl W => Msr (l.length : Int) (sl 12)) ⟨0, rfl, ⟨Nat.zero_le _, fun i j _ h => absurd h (by omega)⟩, hG⟩ ?_
 clear hG
 intro vs W b hb hI
 obtain ⟨i, h12, hi, hG⟩ := hI
 simp only [setSlots, Act.put, List.setIfInBounds_toArray, List.set_cons_succ, List.set_cons_zero] at hb
 subst hb
 replace h12 : vs 12 = .int .i64 (i : Int) := h12
 rw [h12]
 clear h12
 refine wp_seq_h fun K5 HK5 => ?_
 refine wp_listed (R := fun W W' => Below W.heap.size W W') 1 [.val (.bool (decide ((i : Int) < (l.length : Int))))] (fun W => Below w.heap.size w W ∧ mapIs W gm i (lab l i)) kr hG ?_ ?_
 · intro vs W hG b hb
   have e11 : b.eval (.tmp 11) = .int .i64 (l.length : Int) := eo_ hb
   have e12 : b.eval (.tmp 12) = .int .i64 (i : Int) := eo_ hb
   refine ai ?_ (trivial)
   · exact gv rfl hG fun hp K hK => st_bin rfl (e12) (e11) b_lss hK
 intro vs W hG hp b hb
 have q0 : vs 0 = _ := hp 0 kd
 clear hp
 simp only [fillS, Nat.reduceAdd, Nat.zero_add, q0] at hb
 subst hb
 refine wpList_nil ?_
 clear q0
 refine HK5.out _ _ ?_; clear HK5
 refine wp_seq_h fun K6 HK6 => ?_
 refine wp_cond_split rfl (fun hlt => ?_) (fun hlt => ?_)
 rotate_left
 · have hle : i = l.length := by have := of_decide_eq_false hlt; omega
   clear hlt
   apply wp_exit
   simp only [Exit.inBlock, Exit.then, ↓reduceIte]
   refine HK3.out _ _ ?_; clear HK3
   subst hle
   have HG := Lib.hid hG
   have HU := Lib.hid hi.2
   clear hG hi
   go_wp2
   go_ret2
   exact ⟨HG.out.1, .inr ⟨gm, rfl, HU.out, hgm, HG.out.2⟩⟩
 have hil : i < l.length := by have := of_decide_eq_true hlt; omega
 clear hlt
 apply wp_skip
 simp only [Exit.then]
 refine HK6.out _ _ ?_; clear HK6
 have hx : l[i]? = some l[i] := List.getElem?_eq_getElem hil
 have hxi := HI.out _ (List.getElem_mem hil)
 generalize l[i] = x at hx hxi
 have hgx : l.getD i z34 = x := by simp [List.getD, hx]
 obtain ⟨ad, hAd, -⟩ := ld_it (Kd.C_below HC.out hG.1) hx
 subst hAd
 refine wp_seq_h fun K7 HK7 => ?_
 apply wp_block
 refine wp_seq_h fun K8 HK8 => ?_
 refine wp_listed (R := fun W W' => Below W.heap.size W W') 5 [.val (.int .i64 (i : Int)), .val (.pointer (some (ad.add (i * 7)))), .val (.agg (it x)), newSpec (.cells (it z34) 34 (0, 0)) (gm + 1), .val (.int .i64 (i : Int))] (fun W => Below w.heap.size w W ∧ mapIs W gm i (lab l i)) kr hG ?_ ?_
 · intro vs W hG b hb
   have e10 : b.eval (.tmp 10) = .slice (some ad) l.length c := eo_ hb
   have e12 : b.eval (.tmp 12) = .int .i64 (i : Int) := eo_ hb
   refine ai ?_ (ai ?_ (ai ?_ (ai ?_ (ai ?_ (trivial)))))
   · exact mI hG fun hp => e12
   · exact gv rfl hG fun hp K hK => st_index rfl (e10) (e12) (ix23 hil _) hK
   · exact gv rfl hG fun hp K hK => st_load rfl (ev 15 hb 1 (hp 1 kr)) (m_43) hK
   · exact g0 fun hp K hK => st_alloc rfl (new34 _) (hK _ _ ⟨_, rfl, blk_new _ _, mapIs_lt hG.2⟩ ⟨hG.1.alloc hG.1.size _, mapIs_alloc hG.2 _⟩ (br.alloc (Nat.le_refl _) _))
   · exact gv rfl hG fun hp K hK => st_move (.inr rfl) (ev 14 hb 0 (hp 0 kr)) hK
 intro vs W hG hp b hb
 have q0 : vs 0 = _ := hp 0 kd
 have q1 : vs 1 = _ := hp 1 kd
 have q2 : vs 2 = _ := hp 2 kd
 have q3 : ∃ gg, (vs 3) = .pointer (some ⟨gg, 0, none⟩) ∧ W.heap[gg]? = some (.cells (it z34) 34 (0, 0)) ∧ gm + 1 ≤ gg := hp 3 kd
 have q4 : vs 4 = _ := hp 4 kd
 clear hp
 simp only [fillS, Nat.reduceAdd, Nat.zero_add, q0, q1, q2, q4] at hb
 subst hb
 simp only [List.append_eq, List.cons_append, List.nil_append, List.drop_succ_cons, List.drop_zero]
 clear q0 q1 q2 q4
 obtain ⟨gx, hv, Ax, hg⟩ := q3
 rw [hv]
 clear hv
 refine wpList_store_mid rfl 34 (.tmp 6) (.tmp 16) rfl gx 0 (it x) rfl rfl (by have h := blk_there Ax; exact h) kr kr ?_
 refine wpList_nil ?_
 simp only [Act.put]
 have hG2 : (Below w.heap.size w (W.setCells gx 0 (it x).toList) ∧ mapIs (W.setCells gx 0 (it x).toList) gm i (lab l i)) ∧ (W.setCells gx 0 (it x).toList).heap[gx]? = some (.cells (it x) 34 (0, 0)) := ⟨⟨below_sets _ 0 w W gx hG.1 (by omega), mapIs_sets hG.2 (by omega) 0⟩, blk_puts (cs' := it x) Ax rfl⟩
 clear Ax hG
 generalize W.setCells gx 0 (it x).toList = V at hG2 ⊢
 clear W
 refine HK8.out _ _ ?_; clear HK8
 refine wp_seq_h fun K9 HK9 => ?_
 refine wp_seq_h fun K10 HK10 => ?_
 refine wp_listed (R := fun W W' => Below W.heap.size W W') 3 [.val (.pointer (some ⟨gx, 0, none⟩)), .val (.int .i64 x.f0), .val (.bool (x.f0 != 2))] (fun W => (Below w.heap.size w W ∧ mapIs W gm i (lab l i)) ∧ W.heap[gx]? = some (.cells (it x) 34 (0, 0))) kr hG2 ?_ ?_
 · intro vs W hG b hb
   have e6 : b.eval (.tmp 6) = .pointer (some ⟨gx, 0, none⟩) := eo_ hb
   refine ai ?_ (ai ?_ (ai ?_ (trivial)))
   · exact gv rfl hG fun hp K hK => st_field rfl (e6) kr hK
   · exact gv rfl hG fun hp K hK => st_load rfl (ev 17 hb 0 (hp 0 kr)) (ld_cell 3 kr ((blk_cell hG.2 0).trans rfl)) hK
   · exact gv rfl hG fun hp K hK => st_bin rfl (ev 18 hb 1 (hp 1 kr)) (eval_const _) b_neq hK
 intro vs W hG hp b hb
 have q2 : vs 2 = _ := hp 2 kd
 clear hp
 simp only [fillS, Nat.reduceAdd, Nat.zero_add, q2] at hb
 subst hb
 refine wpList_nil ?_
 clear q2
 clear hG2
 refine HK10.out _ _ ?_; clear HK10
 have hinc : IntKind.i64.wrap ((i : Int) + 1) = (i : Int) + 1 := IntWalk.i64_in _ (m_55)
 refine wp_cond_split rfl (fun hk => ?_) (fun hk => ?_)
 · have hk2 : x.f0 ≠ 2 := by simpa using hk
   clear hk
   apply wp_exit
   simp only [Exit.inBlock, Exit.then, ↓reduceIte]
   refine HK7.out _ _ ?_; clear HK7
   have HG := Lib.hid hG
   have Hil := Lib.hid hil
   have HU := Lib.hid hi.2
   clear hG hil hi
   go_wp2
   refine ⟨loop_frame kr, ⟨i + 1, m_56, ⟨Hil.out, ?_⟩, HG.out.1.1, ?_⟩, Msr.lt (by have := Hil.out; omega)⟩
   · intro a b' hab hb2 ha hb3 he
     by_cases e : b' = i
     · subst e
       rw [hgx] at hb3
       exact hk2 hb3
     · exact HU.out a b' hab (by omega) ha hb3 he
   · rw [lab_skip (by rw [hgx]; exact hk2)]
     exact mapIs_mono HG.out.1.2 (by omega)
 have hk2 : x.f0 = 2 := by simpa using hk
 clear hk
 apply wp_skip
 simp only [Exit.then]
 refine HK9.out _ _ ?_; clear HK9
 refine wp_seq_h fun K11 HK11 => ?_
 refine wp_seq_h fun K12 HK12 => ?_
 refine wp_listed (R := fun W W' => Below W.heap.size W W') 9 [.val (.map (some gm)), .val (.pointer (some ⟨gx, 6, none⟩)), .val (.int .i64 x.f2), .val (.tuple #[.int .i64 ((lab l i x.f2).getD 0), .bool (lab l i x.f2).isSome]), .val (.tuple #[.int .i64 ((lab l i x.f2).getD 0), .bool (lab l i x.f2).isSome]), .val (.int .i64 ((lab l i x.f2).getD 0)), .val (.bool (lab l i x.f2).isSome), .val (.int .i64 ((lab l i x.f2).getD 0)), .val (.bool (lab l i x.f2).isSome)] (fun W => (Below w.heap.size w W ∧ mapIs W gm i (lab l i)) ∧ W.heap[gx]? = some (.cells (it x) 34 (0, 0))) kr hG ?_ ?_
 · intro vs W hG b hb
   have e4 : b.eval (.tmp 4) = .map (some gm) := eo_ hb
   have e6 : b.eval (.tmp 6) = .pointer (some ⟨gx, 0, none⟩) := eo_ hb
   refine ai ?_ (ai ?_ (ai ?_ (ai ?_ (ai ?_ (ai ?_ (ai ?_ (ai ?_ (ai ?_ (trivial)))))))))
   · exact mI hG fun hp => e4
   · exact gv rfl hG fun hp K hK => st_field rfl (e6) kr hK
   · exact gv rfl hG fun hp K hK => st_load rfl (ev 22 hb 1 (hp 1 kr)) (ld_cell 3 kr ((blk_cell hG.2 6).trans rfl)) hK
   · exact gv rfl hG fun hp K hK => st_lookup rfl (ev 21 hb 0 (hp 0 kr)) (ev 23 hb 2 (hp 2 kr)) (look_ok hG.1.2 hxi) hK
   · exact mI hG fun hp => ev 24 hb 3 (hp 3 kr)
   · exact gv rfl hG fun hp K hK => st_extract rfl (ev 20 hb 4 (hp 4 kr)) kr hK
   · exact gv rfl hG fun hp K hK => st_extract rfl (ev 20 hb 4 (hp 4 kr)) kr hK
   · exact gv rfl hG fun hp K hK => st_move (.inr rfl) (ev 25 hb 5 (hp 5 kr)) hK
   · exact gv rfl hG fun hp K hK => st_move (.inr rfl) (ev 26 hb 6 (hp 6 kr)) hK
 intro vs W hG hp b hb
 have q8 : vs 8 = _ := hp 8 kd
 clear hp
 simp only [fillS, Nat.reduceAdd, Nat.zero_add, q8] at hb
 subst hb
 refine wpList_nil ?_
 clear q8
 refine HK12.out _ _ ?_; clear HK12
 refine wp_seq_h fun K13 HK13 => ?_
 refine wp_listed (R := fun W W' => Below W.heap.size W W') 1 [.val (.bool (lab l i x.f2).isSome)] (fun W => (Below w.heap.size w W ∧ mapIs W gm i (lab l i)) ∧ W.heap[gx]? = some (.cells (it x) 34 (0, 0))) kr hG ?_ ?_
 · intro vs W hG b hb
   have e8 : b.eval (.tmp 8) = .bool (lab l i x.f2).isSome := eo_ hb
   refine ai ?_ (trivial)
   · exact mI hG fun hp => e8
 intro vs W hG hp b hb
 have q0 : vs 0 = _ := hp 0 kd
 clear hp
 simp only [fillS, Nat.reduceAdd, Nat.zero_add, q0] at hb
 subst hb
 refine wpList_nil ?_
 clear q0
 refine HK13.out _ _ ?_; clear HK13
 refine wp_cond_split rfl (fun hs => ?_) (fun hs => ?_)
 · have HG := Lib.hid hG.1.1
   clear hG
   go_wp2
   go_ret2
   refine ⟨HG.out, .inl ⟨rfl, fun hu => ?_⟩⟩
   obtain ⟨j, hj⟩ := Option.isSome_iff_exists.1 hs
   obtain ⟨i', rfl, h1, h2, h3⟩ := lab_in hj
   exact hu i' i h1 hil h2 (by rw [hgx]; exact hk2) (by rw [hgx]; exact h3)
 have hnone : lab l i x.f2 = none := by simpa using hs
 clear hs
 apply wp_skip
 simp only [Exit.then]
 refine HK11.out _ _ ?_; clear HK11
 refine wp_listed (R := fun W W' => Below W.heap.size W W') 4 [.val (.map (some gm)), .val (.pointer (some ⟨gx, 6, none⟩)), .val (.int .i64 x.f2), .val (.int .i64 (i : Int))] (fun W => (Below w.heap.size w W ∧ mapIs W gm i (lab l i)) ∧ W.heap[gx]? = some (.cells (it x) 34 (0, 0))) kr hG ?_ ?_
 · intro vs W hG b hb
   have e4 : b.eval (.tmp 4) = .map (some gm) := eo_ hb
   have e5 : b.eval (.tmp 5) = .int .i64 (i : Int) := eo_ hb
   have e6 : b.eval (.tmp 6) = .pointer (some ⟨gx, 0, none⟩) := eo_ hb
   refine ai ?_ (ai ?_ (ai ?_ (ai ?_ (trivial))))
   · exact mI hG fun hp => e4
   · exact gv rfl hG fun hp K hK => st_field rfl (e6) kr hK
   · exact gv rfl hG fun hp K hK => st_load rfl (ev 29 hb 1 (hp 1 kr)) (ld_cell 3 kr ((blk_cell hG.2 6).trans rfl)) hK
   · exact mI hG fun hp => e5
 intro vs W hG hp b hb
 have q0 : vs 0 = _ := hp 0 kd
 have q1 : vs 1 = _ := hp 1 kd
 have q2 : vs 2 = _ := hp 2 kd
 have q3 : vs 3 = _ := hp 3 kd
 clear hp
 simp only [fillS, Nat.reduceAdd, Nat.zero_add, q0, q1, q2, q3] at hb
 subst hb
 simp only [List.append_eq, List.cons_append, List.nil_append, List.drop_succ_cons, List.drop_zero]
 clear q0 q1 q2 q3
 refine wpList_put rfl (.tmp 28) (.tmp 30) (.tmp 31) rfl rfl rfl rfl hG.1.2 hxi (by have := HL.out; unfold In64; omega) (by have := HL.out; unfold maxLen; omega) ?_
 intro W1 hm1 hgr
 refine wpList_nil ?_
 simp only [Act.put]
 have hG3 : Below w.heap.size w W1 := hG.1.1.grown hgr hG.1.1.size (fun j hj => by cases hj; exact hgm)
 clear hG
 refine HK7.out _ _ ?_; clear HK7
 have HG := Lib.hid hG3
 have Hm := Lib.hid hm1
 have Hil := Lib.hid hil
 have HU := Lib.hid hi.2
 clear hG3 hm1 hil hi hgr
 go_wp2
 refine ⟨loop_frame kr, ⟨i + 1, m_56, ⟨Hil.out, ?_⟩, HG.out, ?_⟩, Msr.lt (by have := Hil.out; omega)⟩
 · intro a b' hab hb2 ha hb3 he
   by_cases e : b' = i
   · subst e
     rw [hgx] at he
     have := lab_has (l := l) hab ha
     rw [he, hnone] at this
     cases this
   · exact HU.out a b' hab (by omega) ha hb3 he
 · have := lab_put (l := l) (m := i) (by rw [hgx]; exact hk2)
   rw [← this, hgx]
   exact Hm.out
end Go.Proofs.Ytihecimbhhlhaaa.Rl
