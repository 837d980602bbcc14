/- Which items may be. -/
import Derived.Test.YtihecimbhhlhaaaRl2
import Derived.Test.YtihecimbhhlhaaaRlG1
import Derived.Test.YtihecimbhhlhaaaRsG6
import Derived.Test.YtihecimbhhlhaaaRsMc
namespace Go.Proofs.Ytihecimbhhlhaaa.Rl
open Go.RowKit Dr PRs
open Go.Proofs.YtihecimbhhlhaaaW.PrintWords (Kd Kd.C Kd.R Kd.C_below Kd.C_get Kd.R_below Kd.R_reads Kd.R_reads' Kd.R_types Kd.R_step Kd.R_alloc Kd.R_drew Kd.R_lower add_field)
set_option linter.unusedVariables false
set_option linter.unusedSimpArgs false
set_option maxRecDepth 100000
/-- Whether an item may be. -/
def mayB (x : S34) : Bool := (rmay.f 20 x.f0 x.f1.f0 x.f1.f1 x.f1.f2 x.f1.f3 x.f1.f4 x.f2).getD false
theorem may_some (x : S34) : rmay.f 20 x.f0 x.f1.f0 x.f1.f1 x.f1.f2 x.f1.f3 x.f1.f4 x.f2 = some (mayB x) := by
 have hc : ∃ r, inst_Can.f 20 x.f1.f0 x.f1.f1 x.f1.f2 x.f1.f3 x.f1.f4 = some r := by
  obtain ⟨y, hy, -⟩ := Pure.word_is 8 x.f1.f0 x.f1.f1 x.f1.f2 x.f1.f3 x.f1.f4
  unfold inst_Can.f
  rw [hy]
  exact ⟨_, rfl⟩
 obtain ⟨r, hr⟩ := hc
 have h : ∃ r, rmay.f 20 x.f0 x.f1.f0 x.f1.f1 x.f1.f2 x.f1.f3 x.f1.f4 x.f2 = some r := by
  unfold rmay.f
  rw [hr]
  repeat' split
  all_goals exact ⟨_, rfl⟩
 obtain ⟨r, hr⟩ := h
 unfold mayB
 rw [hr]
 rfl
def nameB (x : S34) : Bool := x.f0 == 3 || x.f0 == 4
theorem names_some (x : S34) : relax_names.f x.f0 x.f1.f0 x.f1.f1 x.f1.f2 x.f1.f3 x.f1.f4 x.f2 = some (nameB x) := by
 unfold relax_names.f nameB
 by_cases h : x.f0 = 3
 · rw [if_pos h, h]; rfl
 · rw [if_neg h]
   have : (x.f0 == 3) = false := by simpa using h
   rw [this, Bool.false_or]
/-- Items that may be. -/
def okL (l : List S34) : Prop := (∀ i, i < l.length → mayB (l.getD i z34) = true) ∧ uniq l l.length ∧ (∀ i, i < l.length → nameB (l.getD i z34) = true → (lab l l.length (l.getD i z34).f2).isSome = true)
theorem labels_bad (A : Option Addr) (c : Nat) (l : List S34) (w : World) (hl : l.length ≤ 262144) (hI : ∀ x ∈ l, In64 x.f2) (hC : Kd.C k34 w A l.length l) (hu : ¬ uniq l l.length) :
 Calls Try.prog 33 #[.slice A l.length c] w fun e w' => e = .returned (.tuple #[.map none, .bool false]) ∧ Below w.heap.size w w' :=
 (labels_is A c l w hl hI hC).mono fun e w' h => by
  rcases h with ⟨hb, ⟨he, -⟩ | ⟨g, -, h, -⟩⟩
  · exact ⟨he, hb⟩
  · exact absurd h hu
theorem labels_good (A : Option Addr) (c : Nat) (l : List S34) (w : World) (hl : l.length ≤ 262144) (hI : ∀ x ∈ l, In64 x.f2) (hC : Kd.C k34 w A l.length l) (hu : uniq l l.length) :
 Calls Try.prog 33 #[.slice A l.length c] w fun e w' => ∃ g, e = .returned (.tuple #[.map (some g), .bool true]) ∧ mapIs w' g l.length (lab l l.length) ∧ w.heap.size ≤ g ∧ Below w.heap.size w w' :=
 (labels_is A c l w hl hI hC).mono fun e w' h => by
  rcases h with ⟨hb, ⟨-, h⟩ | ⟨g, he, -, h2, h3⟩⟩
  · exact absurd hu h
  · exact ⟨g, he, h3, h2, hb⟩
/-- A map of the call's own, and a Bool or a number. -/
def pairSpec (m : Nat) (f : Int → Option Int) (g0 : Nat) (u : Value) : DSpec (fun W W' => Below W.heap.size W W') := ⟨fun v W => ∃ g, v = .tuple #[.map (some g), u] ∧ mapIs W g m f ∧ g0 ≤ g, fun _ _ _ ⟨g, h1, h2, h3⟩ hb => ⟨g, h1, mapIs_below h2 hb, h3⟩⟩
theorem lfxRl40 {P : Prop} (h : P := by
 have hinc : IntKind.i64.wrap ((i : Int) + 1) = (i : Int) + 1 := IntWalk.i64_in _ (m_55)
 have HG := Lib.hid hG.1
 have Hil := Lib.hid hil
 have HU := Lib.hid hi.2
 clear hG hil hi
 go_wp2
 refine ⟨loop_frame kr, ⟨i + 1, m_56, ⟨Hil.out, ?_⟩, HG.out⟩, Msr.lt (by have := Hil.out; omega)⟩
 intro j hj
 by_cases e : j = i
 · subst e; rw [hgx]; exact hm2
 · exact HU.out j (by omega)) : P := h
set_option maxHeartbeats 8000000 in
theorem check_is (A : Option Addr) (c : Nat) (l : List S34) (w : World) (hl : l.length ≤ 262144) (hI : ∀ x ∈ l, In64 x.f2) (hC : Kd.C k34 w A l.length l) :
 Calls Try.prog 17 #[.slice A l.length c] w fun e w' => Below w.heap.size w w' ∧ ((∃ k : Int, k ≠ 0 ∧ e = .returned (.tuple #[.map none, .int .i64 k]) ∧ ¬ okL l) ∨ (∃ g, e = .returned (.tuple #[.map (some g), .int .i64 0]) ∧ okL l ∧ w.heap.size ≤ g ∧ mapIs w' g l.length (lab l l.length))) := by
 have HL := Lib.hid hl
 have HI := Lib.hid hI
 have HC := Lib.hid hC
 clear hl hI hC
 go_enter Try.func17, Try.ntmps17
 refine wp_seq_h fun K1 HK1 => ?_
 refine wp_listed (R := fun W W' => Below W.heap.size W W') 2 [.val (Value.map none), .val (.int .i64 0)] (fun W => Below w.heap.size w W) kr br ?_ ?_
 · intro vs W hG b hb
   refine ai ?_ (ai ?_ (trivial))
   · exact gv rfl hG fun hp K hK => st_move (.inr rfl) (eval_const _) hK
   · exact gv rfl hG fun hp K hK => st_move (.inr rfl) (eval_const _) hK
 intro vs W hG hp b hb
 have q0 : vs 0 = _ := hp 0 kd
 have q1 : vs 1 = _ := hp 1 kd
 clear hp
 simp only [fillS, Nat.reduceAdd, Nat.zero_add, q0, q1] at hb
 subst hb
 refine wpList_nil ?_
 clear q0 q1
 refine HK1.out _ _ ?_; clear HK1
 refine wp_seq_h fun K2 HK2 => ?_
 refine wp_seq_h fun K3 HK3 => ?_
 refine wp_listed (R := fun W W' => Below W.heap.size W W') 3 [.val (.slice A l.length c), .val (.int .i64 (l.length : Int)), .val (.bool (decide (262144 < (l.length : Int))))] (fun W => Below w.heap.size w W) kr hG ?_ ?_
 · intro vs W hG b hb
   have e0 : b.eval (.tmp 0) = .slice A l.length c := eo_ hb
   refine ai ?_ (ai ?_ (ai ?_ (trivial)))
   · exact mI hG fun hp => e0
   · refine g0 fun hp K hK => ?_; have e12 : b.eval (.tmp 12) = _ := ev 12 hb 0 (hp 0 kr); exact st_builtin rfl (m_46) (fun cs => b_len 23 (by decide) cs _) (hK _ _ rfl hG br)
   · exact gv rfl hG fun hp K hK => st_bin rfl (ev 13 hb 1 (hp 1 kr)) (eval_const _) b_gtr hK
 intro vs W hG hp b hb
 have q2 : vs 2 = _ := hp 2 kd
 clear hp
 simp only [fillS, Nat.reduceAdd, Nat.zero_add, q2] at hb
 subst hb
 refine wpList_nil ?_
 clear q2
 refine HK3.out _ _ ?_; clear HK3
 have hd : decide (262144 < (l.length : Int)) = false := decide_eq_false (m_55)
 rw [hd]
 clear hd
 apply wp_cond_false rfl
 apply wp_skip
 simp only [Exit.then]
 refine HK2.out _ _ ?_; clear HK2
 refine wp_seq_h fun K4 HK4 => ?_
 refine wp_seq_h fun K5 HK5 => ?_
 refine wp_listed (R := fun W W' => Below W.heap.size W W') 3 [.val (.slice A l.length c), .val (.int .i64 (l.length : Int)), .val (.int .i64 0)] (fun W => Below w.heap.size w W) kr hG ?_ ?_
 · intro vs W hG b hb
   have e0 : b.eval (.tmp 0) = .slice A l.length c := eo_ hb
   refine ai ?_ (ai ?_ (ai ?_ (trivial)))
   · exact mI hG fun hp => e0
   · refine g0 fun hp K hK => ?_; have e15 : b.eval (.tmp 15) = _ := ev 15 hb 0 (hp 0 kr); exact st_builtin rfl (m_61) (fun cs => b_len 23 (by decide) cs _) (hK _ _ rfl hG br)
   · exact mI hG fun hp => eval_const _
 intro vs W hG hp b hb
 have q0 : vs 0 = _ := hp 0 kd
 have q1 : vs 1 = _ := hp 1 kd
 have q2 : vs 2 = _ := hp 2 kd
 clear hp
 simp only [fillS, Nat.reduceAdd, Nat.zero_add, q0, q1, q2] at hb
 subst hb
 refine wpList_nil ?_
 clear q0 q1 q2
 refine HK5.out _ _ ?_; clear HK5
 apply wp_block
 refine wp_loopS [5, 17, 18, 19, 20, 21, 22, 23, 24] (fun sl W => ∃ i : Nat, sl 17 = .int .i64 (i : Int) ∧ (i ≤ l.length ∧ ∀ j, j < i → mayB (l.getD j z34) = true) ∧ Below w.heap.size w W) (fun sl W => Msr (l.length : Int) (sl 17)) ⟨0, rfl, ⟨Nat.zero_le _, fun j h => absurd h (by omega)⟩, hG⟩ ?_
 clear hG
 intro vs W b hb hI
 obtain ⟨i, hsl, hi, hG⟩ := hI
 simp only [setSlots, Act.put, List.setIfInBounds_toArray, List.set_cons_succ, List.set_cons_zero] at hb
 subst hb
 replace hsl : vs 17 = .int .i64 (i : Int) := hsl
 rw [hsl]
 clear hsl
 refine wp_seq_h fun K6 HK6 => ?_
 refine wp_listed (R := fun W W' => Below W.heap.size W W') 1 [.val (.bool (decide ((i : Int) < (l.length : Int))))] (fun W => Below w.heap.size w W) kr hG ?_ ?_
 · intro vs W hG b hb
   have e16 : b.eval (.tmp 16) = .int .i64 (l.length : Int) := eo_ hb
   have e17 : b.eval (.tmp 17) = .int .i64 (i : Int) := eo_ hb
   refine ai ?_ (trivial)
   · exact gv rfl hG fun hp K hK => st_bin rfl (e17) (e16) b_lss hK
 intro vs W hG hp b hb
 have q0 : vs 0 = _ := hp 0 kd
 clear hp
 simp only [fillS, Nat.reduceAdd, Nat.zero_add, q0] at hb
 subst hb
 refine wpList_nil ?_
 clear q0
 refine HK6.out _ _ ?_; clear HK6
 refine wp_seq_h fun K7 HK7 => ?_
 refine wp_cond_split rfl (fun hlt => ?_) (fun hlt => ?_)
 · have hil : i < l.length := by have := of_decide_eq_true hlt; omega
   clear hlt
   apply wp_skip
   simp only [Exit.then]
   refine HK7.out _ _ ?_; clear HK7
   replace hG : Below w.heap.size w W ∧ True := ⟨hG, trivial⟩
   have hx : l[i]? = some l[i] := List.getElem?_eq_getElem hil
   have hxm := List.getElem_mem hil
   generalize l[i] = x at hx hxm
   have hgx : l.getD i z34 = x := by simp [List.getD, hx]
   obtain ⟨ad, hAd, -⟩ := ld_it (Kd.C_below HC.out hG.1) hx
   subst hAd
   refine wp_seq_h fun K8 HK8 => ?_
   apply wp_block
   refine wp_seq_h fun K9 HK9 => ?_
   refine wp_listed (R := fun W W' => Below W.heap.size W W') 3 [.val (.pointer (some (ad.add (i * 7)))), .val (.agg (it x)), newSpec (.cells (it z34) 34 (0, 0)) (w.heap.size)] (fun W => Below w.heap.size w W ∧ True) kr hG ?_ ?_
   · intro vs W hG b hb
     have e15 : b.eval (.tmp 15) = .slice (some ad) l.length c := eo_ hb
     have e17 : b.eval (.tmp 17) = .int .i64 (i : Int) := eo_ hb
     refine ai ?_ (ai ?_ (ai ?_ (trivial)))
     · exact gv rfl hG fun hp K hK => st_index rfl (e15) (e17) (ix23 hil _) hK
     · exact gv rfl hG fun hp K hK => st_load rfl (ev 19 hb 0 (hp 0 kr)) (m_43) hK
     · exact g0 fun hp K hK => st_alloc rfl (new34 _) (hK _ _ ⟨_, rfl, blk_new _ _, hG.1.size⟩ ⟨hG.1.alloc hG.1.size _, trivial⟩ (br.alloc (Nat.le_refl _) _))
   intro vs W hG hp b hb
   have q0 : vs 0 = _ := hp 0 kd
   have q1 : vs 1 = _ := hp 1 kd
   have q2 : ∃ gg, (vs 2) = .pointer (some ⟨gg, 0, none⟩) ∧ W.heap[gg]? = some (.cells (it z34) 34 (0, 0)) ∧ w.heap.size ≤ gg := hp 2 kd
   clear hp
   simp only [fillS, Nat.reduceAdd, Nat.zero_add, q0, q1] at hb
   subst hb
   simp only [List.append_eq, List.cons_append, List.nil_append, List.drop_succ_cons, List.drop_zero]
   clear q0 q1
   obtain ⟨gx, hv, Ax, hg⟩ := q2
   rw [hv]
   clear hv
   refine wpList_store_mid rfl 34 (.tmp 5) (.tmp 20) rfl gx 0 (it x) rfl rfl (by have h := blk_there Ax; exact h) kr kr ?_
   refine wpList_nil ?_
   simp only [Act.put]
   have hG2 : Below w.heap.size w (W.setCells gx 0 (it x).toList) ∧ (W.setCells gx 0 (it x).toList).heap[gx]? = some (.cells (it x) 34 (0, 0)) := ⟨below_sets _ 0 w W gx hG.1 hg, blk_puts (cs' := it x) Ax rfl⟩
   clear Ax hG
   generalize W.setCells gx 0 (it x).toList = V at hG2 ⊢
   clear W
   refine HK9.out _ _ ?_; clear HK9
   refine wp_seq_h fun K10 HK10 => ?_
   refine wp_listed (R := fun W W' => Below W.heap.size W W') 3 [.val (.agg (it x)), .val (.bool (mayB x)), .val (.bool (!(mayB x)))] (fun W => Below w.heap.size w W ∧ W.heap[gx]? = some (.cells (it x) 34 (0, 0))) kr hG2 ?_ ?_
   · intro vs W hG b hb
     have e5 : b.eval (.tmp 5) = .pointer (some ⟨gx, 0, none⟩) := eo_ hb
     refine ai ?_ (ai ?_ (ai ?_ (trivial)))
     · exact gv rfl hG fun hp K hK => st_load rfl (e5) (ld_all 34 _ hG.2 Try.underlying34 rfl kr) hK
     · refine g0 fun hp K hK => ?_; have e21 : b.eval (.tmp 21) = _ := ev 21 hb 0 (hp 0 kr); refine st_call rfl (by first | (simp only [List.map_toArray, List.map_cons, List.map_nil, eval_const, e21]; done) | (simp only [List.map_toArray, List.map_cons, List.map_nil, eval_const, e21]; rfl)) kr ?_; refine (rmay.calls 20 _ _ _ _ _ _ _ _ _ (may_some x)).mono ?_; rintro e w' ⟨rfl, hb'⟩; exact ⟨_, rfl, hK _ _ rfl ⟨below_step hG.1 hb', blk_below hG.2 hb'⟩ hb'⟩
     · exact gv rfl hG fun hp K hK => st_un rfl (ev 22 hb 1 (hp 1 kr)) u_not hK
   intro vs W hG hp b hb
   have q2 : vs 2 = _ := hp 2 kd
   clear hp
   simp only [fillS, Nat.reduceAdd, Nat.zero_add, q2] at hb
   subst hb
   refine wpList_nil ?_
   clear q2
   clear hG2
   refine HK10.out _ _ ?_; clear HK10
   refine wp_cond_split rfl (fun hm => ?_) (fun hm => ?_)
   · have HG := Lib.hid hG.1
     clear hG
     go_wp2
     go_ret2
     refine ⟨HG.out, .inl ⟨1, by decide, rfl, fun ho => ?_⟩⟩
     have := ho.1 i hil
     rw [hgx] at this
     rw [this] at hm
     cases hm
   have hm2 : mayB x = true := by simpa using hm
   clear hm
   apply wp_skip
   simp only [Exit.inBlock, Exit.then, ↓reduceIte]
   refine HK8.out _ _ ?_; clear HK8
   exact lfxRl40
 have hle : i = l.length := by have := of_decide_eq_false hlt; omega
 clear hlt
 apply wp_exit
 simp only [Exit.inBlock, Exit.then, ↓reduceIte]
 subst hle
 have HM := Lib.hid hi.2
 clear hi
 refine HK4.out _ _ ?_; clear HK4
 by_cases hu : uniq l l.length
 rotate_left
 · skip
   refine wp_seq_h fun K11 HK11 => ?_
   refine wp_listed (R := fun W W' => Below W.heap.size W W') 7 [.val (.slice A l.length c), .val (.tuple #[.map none, .bool false]), .val (.tuple #[.map none, .bool false]), .val (.map none), .val (.bool false), .val (.map none), .val (.bool false)] (fun W => Below w.heap.size w W) kr hG ?_ ?_
   · intro vs W hG b hb
     have e0 : b.eval (.tmp 0) = .slice A l.length c := eo_ hb
     refine ai ?_ (ai ?_ (ai ?_ (ai ?_ (ai ?_ (ai ?_ (ai ?_ (trivial)))))))
     · exact mI hG fun hp => e0
     · refine g0 fun hp K hK => ?_; have e26 : b.eval (.tmp 26) = _ := ev 26 hb 0 (hp 0 kr); refine st_call rfl (m_62) kr ?_; refine (labels_bad A c l _ HL.out HI.out (Kd.C_below HC.out hG) hu).mono ?_; rintro e w' ⟨rfl, hb'⟩; exact ⟨_, rfl, hK _ _ rfl (below_step hG hb') hb'⟩
     · exact mI hG fun hp => ev 27 hb 1 (hp 1 kr)
     · exact gv rfl hG fun hp K hK => st_extract rfl (ev 25 hb 2 (hp 2 kr)) kr hK
     · exact gv rfl hG fun hp K hK => st_extract rfl (ev 25 hb 2 (hp 2 kr)) kr hK
     · exact gv rfl hG fun hp K hK => st_move (.inr rfl) (ev 28 hb 3 (hp 3 kr)) hK
     · exact gv rfl hG fun hp K hK => st_move (.inr rfl) (ev 29 hb 4 (hp 4 kr)) hK
   intro vs W hG hp b hb
   have q0 : vs 0 = _ := hp 0 kd
   have q1 : vs 1 = _ := hp 1 kd
   have q2 : vs 2 = _ := hp 2 kd
   have q3 : vs 3 = _ := hp 3 kd
   have q4 : vs 4 = _ := hp 4 kd
   have q5 : vs 5 = _ := hp 5 kd
   have q6 : vs 6 = _ := hp 6 kd
   clear hp
   simp only [fillS, Nat.reduceAdd, Nat.zero_add, q0, q1, q2, q3, q4, q5, q6] at hb
   subst hb
   refine wpList_nil ?_
   clear q0 q1 q2 q3 q4 q5 q6
   refine HK11.out _ _ ?_; clear HK11
   have HG := Lib.hid hG
   clear hG
   go_wp2
   go_ret2
   exact ⟨HG.out, .inl ⟨8, by decide, rfl, fun ho => hu ho.2.1⟩⟩
 refine wp_seq_h fun K12 HK12 => ?_
 refine wp_listed (R := fun W W' => Below W.heap.size W W') 7 [.val (.slice A l.length c), pairSpec l.length (lab l l.length) w.heap.size (.bool true), pairSpec l.length (lab l l.length) w.heap.size (.bool true), mapSpec l.length (lab l l.length) w.heap.size, .val (.bool true), mapSpec l.length (lab l l.length) w.heap.size, .val (.bool true)] (fun W => Below w.heap.size w W) kr hG ?_ ?_
 · intro vs W hG b hb
   have e0 : b.eval (.tmp 0) = .slice A l.length c := eo_ hb
   refine ai ?_ (ai ?_ (ai ?_ (ai ?_ (ai ?_ (ai ?_ (ai ?_ (trivial)))))))
   · exact mI hG fun hp => e0
   · refine g0 fun hp K hK => ?_; have e26 : b.eval (.tmp 26) = _ := ev 26 hb 0 (hp 0 kr); refine st_call rfl (m_62) kr ?_; refine (labels_good A c l _ HL.out HI.out (Kd.C_below HC.out hG) hu).mono ?_; rintro e w' ⟨g, rfl, hm, hgm, hb'⟩; replace hgm := Nat.le_trans hG.size hgm; exact ⟨_, rfl, hK _ _ ⟨_, rfl, hm, hgm⟩ (below_step hG hb') hb'⟩
   · refine g0 fun hp K hK => ?_; have q1 : ∃ g, (vs 1) = .tuple #[.map (some g), .bool true] ∧ mapIs W g l.length (lab l l.length) ∧ w.heap.size ≤ g := hp 1 kr; obtain ⟨gm, hv, hm, hgm⟩ := q1; have e27 := (ei_ 27 hb 1).trans hv; exact st_move (.inl rfl) (e27) (hK _ _ ⟨_, rfl, hm, hgm⟩ hG br)
   · refine g0 fun hp K hK => ?_; have q2 : ∃ g, (vs 2) = .tuple #[.map (some g), .bool true] ∧ mapIs W g l.length (lab l l.length) ∧ w.heap.size ≤ g := hp 2 kr; obtain ⟨gm, hv, hm, hgm⟩ := q2; have e25 := (ei_ 25 hb 2).trans hv; exact st_extract rfl (e25) kr (hK _ _ ⟨_, rfl, hm, hgm⟩ hG br)
   · refine g0 fun hp K hK => ?_; have q2 : ∃ g, (vs 2) = .tuple #[.map (some g), .bool true] ∧ mapIs W g l.length (lab l l.length) ∧ w.heap.size ≤ g := hp 2 kr; obtain ⟨gm, hv, hm, hgm⟩ := q2; have e25 := (ei_ 25 hb 2).trans hv; exact st_extract rfl (e25) kr (hK _ _ rfl hG br)
   · refine g0 fun hp K hK => ?_; have q3 : ∃ g, (vs 3) = .map (some g) ∧ mapIs W g l.length (lab l l.length) ∧ w.heap.size ≤ g := hp 3 kr; obtain ⟨gm, hv, hm, hgm⟩ := q3; have e28 := (ei_ 28 hb 3).trans hv; exact st_move (.inr rfl) (e28) (hK _ _ ⟨_, rfl, hm, hgm⟩ hG br)
   · exact gv rfl hG fun hp K hK => st_move (.inr rfl) (ev 29 hb 4 (hp 4 kr)) hK
 intro vs W hG hp b hb
 have q1 : ∃ g, (vs 1) = .tuple #[.map (some g), .bool true] ∧ mapIs W g l.length (lab l l.length) ∧ w.heap.size ≤ g := hp 1 kd
 have q2 : ∃ g, (vs 2) = .tuple #[.map (some g), .bool true] ∧ mapIs W g l.length (lab l l.length) ∧ w.heap.size ≤ g := hp 2 kd
 have q3 : ∃ g, (vs 3) = .map (some g) ∧ mapIs W g l.length (lab l l.length) ∧ w.heap.size ≤ g := hp 3 kd
 have q5 : ∃ g, (vs 5) = .map (some g) ∧ mapIs W g l.length (lab l l.length) ∧ w.heap.size ≤ g := hp 5 kd
 have q6 : vs 6 = _ := hp 6 kd
 clear hp
 simp only [fillS, Nat.reduceAdd, Nat.zero_add, q6] at hb
 subst hb
 refine wpList_nil ?_
 clear q6
 clear q1 q2 q3
 obtain ⟨gm, hv, hm, hgm⟩ := q5
 rw [hv]
 clear hv
 refine HK12.out _ _ ?_; clear HK12
 replace hG : Below w.heap.size w W ∧ mapIs W gm l.length (lab l l.length) := ⟨hG, hm⟩
 clear hm
 refine wp_seq_h fun K13 HK13 => ?_
 refine wp_seq_h fun K14 HK14 => ?_
 refine wp_listed (R := fun W W' => Below W.heap.size W W') 2 [.val (.bool true), .val (.bool (!true))] (fun W => Below w.heap.size w W ∧ mapIs W gm l.length (lab l l.length)) kr hG ?_ ?_
 · intro vs W hG b hb
   have e7 : b.eval (.tmp 7) = .bool true := eo_ hb
   refine ai ?_ (ai ?_ (trivial))
   · exact mI hG fun hp => e7
   · exact gv rfl hG fun hp K hK => st_un rfl (ev 30 hb 0 (hp 0 kr)) u_not hK
 intro vs W hG hp b hb
 have q1 : vs 1 = _ := hp 1 kd
 clear hp
 simp only [fillS, Nat.reduceAdd, Nat.zero_add, q1] at hb
 subst hb
 refine wpList_nil ?_
 clear q1
 refine HK14.out _ _ ?_; clear HK14
 apply wp_cond_false rfl
 apply wp_skip
 simp only [Exit.then]
 refine HK13.out _ _ ?_; clear HK13
 refine wp_seq_h fun K15 HK15 => ?_
 refine wp_seq_h fun K16 HK16 => ?_
 refine wp_listed (R := fun W W' => Below W.heap.size W W') 3 [.val (.slice A l.length c), .val (.int .i64 (l.length : Int)), .val (.int .i64 0)] (fun W => Below w.heap.size w W ∧ mapIs W gm l.length (lab l l.length)) kr hG ?_ ?_
 · intro vs W hG b hb
   have e0 : b.eval (.tmp 0) = .slice A l.length c := eo_ hb
   refine ai ?_ (ai ?_ (ai ?_ (trivial)))
   · exact mI hG fun hp => e0
   · refine g0 fun hp K hK => ?_; have e32 : b.eval (.tmp 32) = _ := ev 32 hb 0 (hp 0 kr); exact st_builtin rfl (by first | (simp only [List.map_toArray, List.map_cons, List.map_nil, eval_const, e32]; done) | (simp only [List.map_toArray, List.map_cons, List.map_nil, eval_const, e32]; rfl)) (fun cs => b_len 23 (by decide) cs _) (hK _ _ rfl hG br)
   · exact mI hG fun hp => eval_const _
 intro vs W hG hp b hb
 have q0 : vs 0 = _ := hp 0 kd
 have q1 : vs 1 = _ := hp 1 kd
 have q2 : vs 2 = _ := hp 2 kd
 clear hp
 simp only [fillS, Nat.reduceAdd, Nat.zero_add, q0, q1, q2] at hb
 subst hb
 refine wpList_nil ?_
 clear q0 q1 q2
 refine HK16.out _ _ ?_; clear HK16
 apply wp_block
 refine wp_loopS [9, 10, 11, 34, 35, 36, 37, 38, 39, 40, 41, 42, 43, 44, 45, 46, 47, 48, 49, 50, 51] (fun sl W => ∃ i : Nat, sl 34 = .int .i64 (i : Int) ∧ (i ≤ l.length ∧ ∀ j, j < i → nameB (l.getD j z34) = true → ((lab l l.length) (l.getD j z34).f2).isSome = true) ∧ Below w.heap.size w W ∧ mapIs W gm l.length (lab l l.length)) (fun sl W => Msr (l.length : Int) (sl 34)) ⟨0, rfl, ⟨Nat.zero_le _, fun j h => absurd h (by omega)⟩, hG⟩ ?_
 clear hG
 intro vs W b hb hI
 obtain ⟨i, hsl, hi, hG⟩ := hI
 simp only [setSlots, Act.put, List.setIfInBounds_toArray, List.set_cons_succ, List.set_cons_zero] at hb
 subst hb
 replace hsl : vs 34 = .int .i64 (i : Int) := hsl
 rw [hsl]
 clear hsl
 refine wp_seq_h fun K17 HK17 => ?_
 refine wp_listed (R := fun W W' => Below W.heap.size W W') 1 [.val (.bool (decide ((i : Int) < (l.length : Int))))] (fun W => Below w.heap.size w W ∧ mapIs W gm l.length (lab l l.length)) kr hG ?_ ?_
 · intro vs W hG b hb
   have e33 : b.eval (.tmp 33) = .int .i64 (l.length : Int) := eo_ hb
   have e34 : b.eval (.tmp 34) = .int .i64 (i : Int) := eo_ hb
   refine ai ?_ (trivial)
   · exact gv rfl hG fun hp K hK => st_bin rfl (e34) (e33) b_lss hK
 intro vs W hG hp b hb
 have q0 : vs 0 = _ := hp 0 kd
 clear hp
 simp only [fillS, Nat.reduceAdd, Nat.zero_add, q0] at hb
 subst hb
 refine wpList_nil ?_
 clear q0
 refine HK17.out _ _ ?_; clear HK17
 refine wp_seq_h fun K18 HK18 => ?_
 refine wp_cond_split rfl (fun hlt => ?_) (fun hlt => ?_)
 · have hil : i < l.length := by have := of_decide_eq_true hlt; omega
   clear hlt
   apply wp_skip
   simp only [Exit.then]
   refine HK18.out _ _ ?_; clear HK18
   have hx : l[i]? = some l[i] := List.getElem?_eq_getElem hil
   have hxm := List.getElem_mem hil
   generalize l[i] = x at hx hxm
   have hgx : l.getD i z34 = x := by simp [List.getD, hx]
   obtain ⟨ad, hAd, -⟩ := ld_it (Kd.C_below HC.out hG.1) hx
   subst hAd
   refine wp_seq_h fun K19 HK19 => ?_
   apply wp_block
   refine wp_seq_h fun K20 HK20 => ?_
   refine wp_listed (R := fun W W' => Below W.heap.size W W') 3 [.val (.pointer (some (ad.add (i * 7)))), .val (.agg (it x)), newSpec (.cells (it z34) 34 (0, 0)) (gm + 1)] (fun W => Below w.heap.size w W ∧ mapIs W gm l.length (lab l l.length)) kr hG ?_ ?_
   · intro vs W hG b hb
     have e32 : b.eval (.tmp 32) = .slice (some ad) l.length c := eo_ hb
     have e34 : b.eval (.tmp 34) = .int .i64 (i : Int) := eo_ hb
     refine ai ?_ (ai ?_ (ai ?_ (trivial)))
     · exact gv rfl hG fun hp K hK => st_index rfl (e32) (e34) (ix23 hil _) hK
     · exact gv rfl hG fun hp K hK => st_load rfl (ev 36 hb 0 (hp 0 kr)) (m_43) hK
     · exact g0 fun hp K hK => st_alloc rfl (new34 _) (hK _ _ ⟨_, rfl, blk_new _ _, mapIs_lt hG.2⟩ ⟨hG.1.alloc hG.1.size _, mapIs_alloc hG.2 _⟩ (br.alloc (Nat.le_refl _) _))
   intro vs W hG hp b hb
   have q0 : vs 0 = _ := hp 0 kd
   have q1 : vs 1 = _ := hp 1 kd
   have q2 : ∃ gg, (vs 2) = .pointer (some ⟨gg, 0, none⟩) ∧ W.heap[gg]? = some (.cells (it z34) 34 (0, 0)) ∧ gm + 1 ≤ gg := hp 2 kd
   clear hp
   simp only [fillS, Nat.reduceAdd, Nat.zero_add, q0, q1] at hb
   subst hb
   simp only [List.append_eq, List.cons_append, List.nil_append, List.drop_succ_cons, List.drop_zero]
   clear q0 q1
   obtain ⟨gx, hv, Ax, hg⟩ := q2
   rw [hv]
   clear hv
   refine wpList_store_mid rfl 34 (.tmp 9) (.tmp 37) rfl gx 0 (it x) rfl rfl (by have h := blk_there Ax; exact h) kr kr ?_
   refine wpList_nil ?_
   simp only [Act.put]
   have hG2 : (Below w.heap.size w (W.setCells gx 0 (it x).toList) ∧ mapIs (W.setCells gx 0 (it x).toList) gm l.length (lab l l.length)) ∧ (W.setCells gx 0 (it x).toList).heap[gx]? = some (.cells (it x) 34 (0, 0)) := ⟨⟨below_sets _ 0 w W gx hG.1 (by omega), mapIs_sets hG.2 (by omega) 0⟩, blk_puts (cs' := it x) Ax rfl⟩
   clear Ax hG
   generalize W.setCells gx 0 (it x).toList = V at hG2 ⊢
   clear W
   refine HK20.out _ _ ?_; clear HK20
   refine wp_seq_h fun K21 HK21 => ?_
   refine wp_listed (R := fun W W' => Below W.heap.size W W') 9 [.val (.map (some gm)), .val (.pointer (some ⟨gx, 6, none⟩)), .val (.int .i64 x.f2), .val (.tuple #[.int .i64 (((lab l l.length) x.f2).getD 0), .bool ((lab l l.length) x.f2).isSome]), .val (.tuple #[.int .i64 (((lab l l.length) x.f2).getD 0), .bool ((lab l l.length) x.f2).isSome]), .val (.int .i64 (((lab l l.length) x.f2).getD 0)), .val (.bool ((lab l l.length) x.f2).isSome), .val (.int .i64 (((lab l l.length) x.f2).getD 0)), .val (.bool ((lab l l.length) x.f2).isSome)] (fun W => (Below w.heap.size w W ∧ mapIs W gm l.length (lab l l.length)) ∧ W.heap[gx]? = some (.cells (it x) 34 (0, 0))) kr hG2 ?_ ?_
   · intro vs W hG b hb
     have e6 : b.eval (.tmp 6) = .map (some gm) := eo_ hb
     have e9 : b.eval (.tmp 9) = .pointer (some ⟨gx, 0, none⟩) := eo_ hb
     refine ai ?_ (ai ?_ (ai ?_ (ai ?_ (ai ?_ (ai ?_ (ai ?_ (ai ?_ (ai ?_ (trivial)))))))))
     · exact mI hG fun hp => e6
     · exact gv rfl hG fun hp K hK => st_field rfl (e9) kr hK
     · exact gv rfl hG fun hp K hK => st_load rfl (ev 40 hb 1 (hp 1 kr)) (ld_cell 3 kr ((blk_cell hG.2 6).trans rfl)) hK
     · exact gv rfl hG fun hp K hK => st_lookup rfl (ev 39 hb 0 (hp 0 kr)) (ev 41 hb 2 (hp 2 kr)) (look_ok hG.1.2 (HI.out _ hxm)) hK
     · exact mI hG fun hp => ev 42 hb 3 (hp 3 kr)
     · exact gv rfl hG fun hp K hK => st_extract rfl (ev 38 hb 4 (hp 4 kr)) kr hK
     · exact gv rfl hG fun hp K hK => st_extract rfl (ev 38 hb 4 (hp 4 kr)) kr hK
     · exact gv rfl hG fun hp K hK => st_move (.inr rfl) (ev 43 hb 5 (hp 5 kr)) hK
     · exact gv rfl hG fun hp K hK => st_move (.inr rfl) (ev 44 hb 6 (hp 6 kr)) hK
   intro vs W hG hp b hb
   have q8 : vs 8 = _ := hp 8 kd
   clear hp
   simp only [fillS, Nat.reduceAdd, Nat.zero_add, q8] at hb
   subst hb
   refine wpList_nil ?_
   clear q8
   clear hG2
   refine HK21.out _ _ ?_; clear HK21
   refine wp_seq_h fun K22 HK22 => ?_
   refine wp_listed (R := fun W W' => Below W.heap.size W W') 6 [.val (.agg (it x)), .val (.bool (nameB x)), .val (.bool (nameB x)), .val ((bif ((nameB x) == true) then (.bool ((lab l l.length) x.f2).isSome) else undef)), .val ((bif ((nameB x) == true) then (.bool (!(((lab l l.length) x.f2).isSome))) else undef)), .val (.bool ((nameB x) && (!(((lab l l.length) x.f2).isSome))))] (fun W => (Below w.heap.size w W ∧ mapIs W gm l.length (lab l l.length)) ∧ W.heap[gx]? = some (.cells (it x) 34 (0, 0))) kr hG ?_ ?_
   · intro vs W hG b hb
     have e9 : b.eval (.tmp 9) = .pointer (some ⟨gx, 0, none⟩) := eo_ hb
     have e11 : b.eval (.tmp 11) = .bool ((lab l l.length) x.f2).isSome := eo_ hb
     refine ai ?_ (ai ?_ (ai ?_ (ai ?_ (ai ?_ (ai ?_ (trivial))))))
     · exact gv rfl hG fun hp K hK => st_load rfl (e9) (ld_all 34 _ hG.2 Try.underlying34 rfl kr) hK
     · refine g0 fun hp K hK => ?_; have e45 : b.eval (.tmp 45) = _ := ev 45 hb 0 (hp 0 kr); refine st_call rfl (by first | (simp only [List.map_toArray, List.map_cons, List.map_nil, eval_const, e45]; done) | (simp only [List.map_toArray, List.map_cons, List.map_nil, eval_const, e45]; rfl)) kr ?_; refine (relax_names.calls _ _ _ _ _ _ _ _ _ (names_some x)).mono ?_; rintro e w' ⟨rfl, hb'⟩; exact ⟨_, rfl, hK _ _ rfl ⟨⟨below_step hG.1.1 hb', mapIs_below hG.1.2 hb'⟩, blk_below hG.2 hb'⟩ hb'⟩
     · exact mI hG fun hp => ev 46 hb 1 (hp 1 kr)
     · exact gI 2 47 (nameB x) true (ei_ 47 hb 2) hG fun hp K hK hc => st_move (.inl rfl) (e11) (hK _ _ (cond_yes hc).symm hG br)
     · exact gI 2 47 (nameB x) true (ei_ 47 hb 2) hG fun hp K hK hc => st_un rfl ((ev 48 hb 3 (hp 3 kr)).trans (cond_yes hc)) u_not (hK _ _ (cond_yes hc).symm hG br)
     · refine g0 fun hp K hK => ?_; have e47 : b.eval (.tmp 47) = _ := ev 47 hb 2 (hp 2 kr); have e49 : b.eval (.tmp 49) = _ := ev 49 hb 4 (hp 4 kr); exact st_pick rfl (e47) (by first | (rw [e49]; exact pick_and) | (rw [show b.eval (Operand.tmp 49) = _ from eval_const _]; exact pick_and)) (hK _ _ rfl hG br)
   intro vs W hG hp b hb
   have q5 : vs 5 = _ := hp 5 kd
   clear hp
   simp only [fillS, Nat.reduceAdd, Nat.zero_add, q5] at hb
   subst hb
   refine wpList_nil ?_
   clear q5
   refine HK22.out _ _ ?_; clear HK22
   refine wp_cond_split rfl (fun hm => ?_) (fun hm => ?_)
   · have HG := Lib.hid hG.1.1
     clear hG
     go_wp2
     go_ret2
     refine ⟨HG.out, .inl ⟨8, by decide, rfl, fun ho => ?_⟩⟩
     have h3 := ho.2.2 i hil
     rw [hgx] at h3
     rw [Bool.and_eq_true] at hm
     rw [h3 hm.1] at hm
     exact absurd hm.2 (by decide)
   have hm2 : nameB x = true → ((lab l l.length) x.f2).isSome = true := by
    intro h
    rw [h] at hm
    simpa using hm
   clear hm
   apply wp_skip
   simp only [Exit.inBlock, Exit.then, ↓reduceIte]
   refine HK19.out _ _ ?_; clear HK19
   exact lfxRl40
 have hle : i = l.length := by have := of_decide_eq_false hlt; omega
 clear hlt
 apply wp_exit
 simp only [Exit.inBlock, Exit.then, ↓reduceIte]
 subst hle
 have HN := Lib.hid hi.2
 clear hi
 refine HK15.out _ _ ?_; clear HK15
 have HG := Lib.hid hG
 clear hG
 go_wp2
 go_ret2
 exact ⟨HG.out.1, .inr ⟨gm, rfl, ⟨HM.out, hu, HN.out⟩, hgm, HG.out.2⟩⟩
end Go.Proofs.Ytihecimbhhlhaaa.Rl
