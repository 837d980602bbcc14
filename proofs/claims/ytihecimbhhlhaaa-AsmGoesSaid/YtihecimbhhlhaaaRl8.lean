/- Layout. -/
import Derived.Test.YtihecimbhhlhaaaRl7
import Derived.ScopeJumps
import Derived.Test.YtihecimbhhlhaaaRsMc
namespace Go.Proofs.Ytihecimbhhlhaaa.Rl
open Go.RowKit Dr PRs
open Go.Proofs.YtihecimbhhlhaaaW.PrintWords (Kd Kd.C Kd.R Kd.C_below Kd.C_get Kd.R_below Kd.R_reads Kd.R_reads' Kd.R_types Kd.R_step Kd.R_alloc Kd.R_drew Kd.R_lower add_field)
set_option linter.unusedVariables false
set_option linter.unusedSimpArgs false
set_option maxRecDepth 100000
theorem C_begs {W : World} {A : Option Addr} {b n c : Nat} {l : List S34} {far : Nat → Bool} (h : Kd.R (Kd.int .i64) 3 W b (fun _ => True) (.slice A n c) (begs l far n)) : Kd.C (Kd.int .i64) W A n (begs l far n) := by
 have h := (Kd.R_reads' h).2.2
 rwa [begs_len] at h
theorem check_bad (A : Option Addr) (c : Nat) (l : List S34) (w : World) (hl : l.length ≤ 262144) (hI : ∀ x ∈ l, In64 x.f2) (hC : Kd.C k34 w A l.length l) (ho : ¬ okL l) :
 Calls Try.prog 17 #[.slice A l.length c] w fun e w' => ∃ k : Int, k ≠ 0 ∧ e = .returned (.tuple #[.map none, .int .i64 k]) ∧ Below w.heap.size w w' :=
 (check_is A c l w hl hI hC).mono fun e w' h => by
  rcases h with ⟨hb, ⟨k, h1, h2, -⟩ | ⟨g, -, h, -⟩⟩
  · exact ⟨k, h1, h2, hb⟩
  · exact absurd h ho
theorem check_good (A : Option Addr) (c : Nat) (l : List S34) (w : World) (hl : l.length ≤ 262144) (hI : ∀ x ∈ l, In64 x.f2) (hC : Kd.C k34 w A l.length l) (ho : okL l) :
 Calls Try.prog 17 #[.slice A l.length c] w fun e w' => ∃ g, e = .returned (.tuple #[.map (some g), .int .i64 0]) ∧ mapIs w' g l.length (lab l l.length) ∧ w.heap.size ≤ g ∧ Below w.heap.size w w' :=
 (check_is A c l w hl hI hC).mono fun e w' h => by
  rcases h with ⟨hb, ⟨k, -, -, h⟩ | ⟨g, h1, -, h2, h3⟩⟩
  · exact absurd ho h
  · exact ⟨g, h1, h3, h2, hb⟩
theorem wp_scope_pass {P : Program} {a : Act} {w : World} {Q : Exit → Act → World → Prop} {c rest : Code} (l : Nat) (J : Act → World → Prop) (μ : Act → World → Nat) (hf : findLabel c l = some (Code.seq Code.skip rest))
 (first : (∀ a w, J a w → rest.wp P (Exit.jump l J Q) a w) → c.wp P (Exit.jump l J Q) a w)
 (pass : ∀ a w, J a w → rest.wp P (Exit.jump l (fun a' w' => J a' w' ∧ μ a' w' < μ a w) Q) a w) : (Code.scope c).wp P Q a w :=
 wp_scope_jumps l J μ hf (first fun a w h => Code.wp_mono (fun e a2 W2 h => by cases e <;> first | exact h | exact ⟨h.1, h.2.1⟩) (pass a w h)) (fun a w h => by
  apply wp_seq_k
  intro K hK
  apply wp_skip
  exact hK _ _ (pass a w h))
/-- A pair of no map and a number that is not 0. -/
def errSpec (f : Int → Value) : DSpec (fun W W' => Below W.heap.size W W') := ⟨fun v W => ∃ k : Int, k ≠ 0 ∧ v = f k, fun _ _ _ h _ => h⟩
theorem lfxRl80 {P : Prop} (h : P := by
 clear hb
 refine And.intro ?_ (And.intro ?_ (And.intro ?_ (trivial)))
 · exact g0 fun hp K hK => st_move (.inr rfl) (eval_const _) (hK _ _ rfl hG br)
 · exact g0 fun hp K hK => st_move (.inr rfl) (eval_const _) (hK _ _ rfl hG br)
 · exact g0 fun hp K hK => st_move (.inr rfl) (eval_const _) (hK _ _ rfl hG br)) : P := h
set_option maxHeartbeats 8000000 in
theorem layout_bad (A : Option Addr) (c : Nat) (l : List S34) (w : World) (hl : l.length ≤ 4000) (hI : ∀ x ∈ l, In64 x.f2) (hJ : ∀ x ∈ l, In32 x.f1.f4) (hC : Kd.C k34 w A l.length l) (ho : ¬ okL l) :
 Calls Try.prog 8 #[.slice A l.length c] w fun e w' => ∃ k : Int, k ≠ 0 ∧ e = .returned (.tuple #[.slice none 0 0, .slice none 0 0, .int .i64 k]) ∧ Below w.heap.size w w' := by
 have HL := Lib.hid hl
 have HI := Lib.hid hI
 have HC := Lib.hid hC
 clear hl hI hC
 go_enter Try.func8, Try.ntmps8
 refine wp_seq_h fun K1 HK1 => ?_
 refine wp_listed (R := fun W W' => Below W.heap.size W W') 3 [.val (Value.slice none 0 0), .val (Value.slice none 0 0), .val (.int .i64 0)] (fun W => Below w.heap.size w W) kr br ?_ ?_
 · intro vs W hG b hb
   exact lfxRl80
 intro vs W hG hp b hb
 have q0 : vs 0 = _ := hp 0 kd
 have q1 : vs 1 = _ := hp 1 kd
 have q2 : vs 2 = _ := hp 2 kd
 clear hp
 simp only [fillS, Nat.reduceAdd, Nat.zero_add, q0, q1, q2] at hb
 subst hb
 refine wpList_nil ?_
 clear q0 q1 q2
 refine HK1.out _ _ ?_; clear HK1
 refine wp_scope_straight ?_
 refine wp_seq_h fun K2 HK2 => ?_
 refine wp_listed (R := fun W W' => Below W.heap.size W W') 7 [.val (.slice A l.length c), errSpec (fun k => .tuple #[.map none, .int .i64 k]), errSpec (fun k => .tuple #[.map none, .int .i64 k]), .val (.map none), errSpec (fun k => .int .i64 k), .val (.map none), errSpec (fun k => .int .i64 k)] (fun W => Below w.heap.size w W) kr hG ?_ ?_
 · intro vs W hG b hb
   have e0 : b.eval (.tmp 0) = .slice A l.length c := eo_ hb
   refine ai ?_ (ai ?_ (ai ?_ (ai ?_ (ai ?_ (ai ?_ (ai ?_ (trivial)))))))
   · exact mI hG fun hp => e0
   · refine g0 fun hp K hK => ?_; have e13 : b.eval (.tmp 13) = _ := ev 13 hb 0 (hp 0 kr); refine st_call rfl (m_63) kr ?_; refine (check_bad A c l _ (Nat.le_trans HL.out (by decide)) HI.out (Kd.C_below HC.out hG) ho).mono ?_; rintro e w' ⟨k, hk, rfl, hb'⟩; exact ⟨_, rfl, hK _ _ ⟨_, hk, rfl⟩ (below_step hG hb') hb'⟩
   · refine g0 fun hp K hK => ?_; have q1 : ∃ k : Int, k ≠ 0 ∧ (vs 1) = .tuple #[.map none, .int .i64 k] := hp 1 kr; obtain ⟨k, hk, hv⟩ := q1; have e14 := (ei_ 14 hb 1).trans hv; exact st_move (.inl rfl) (e14) (hK _ _ ⟨_, hk, rfl⟩ hG br)
   · refine g0 fun hp K hK => ?_; have q2 : ∃ k : Int, k ≠ 0 ∧ (vs 2) = .tuple #[.map none, .int .i64 k] := hp 2 kr; obtain ⟨k, hk, hv⟩ := q2; have e12 := (ei_ 12 hb 2).trans hv; exact st_extract rfl (e12) kr (hK _ _ rfl hG br)
   · refine g0 fun hp K hK => ?_; have q2 : ∃ k : Int, k ≠ 0 ∧ (vs 2) = .tuple #[.map none, .int .i64 k] := hp 2 kr; obtain ⟨k, hk, hv⟩ := q2; have e12 := (ei_ 12 hb 2).trans hv; exact st_extract rfl (e12) kr (hK _ _ ⟨_, hk, rfl⟩ hG br)
   · exact gv rfl hG fun hp K hK => st_move (.inr rfl) (ev 15 hb 3 (hp 3 kr)) hK
   · refine g0 fun hp K hK => ?_; have q4 : ∃ k : Int, k ≠ 0 ∧ (vs 4) = .int .i64 k := hp 4 kr; obtain ⟨k, hk, hv⟩ := q4; have e16 := (ei_ 16 hb 4).trans hv; exact st_move (.inr rfl) (e16) (hK _ _ ⟨_, hk, rfl⟩ hG br)
 intro vs W hG hp b hb
 have q0 : vs 0 = _ := hp 0 kd
 have q1 : ∃ k : Int, k ≠ 0 ∧ (vs 1) = .tuple #[.map none, .int .i64 k] := hp 1 kd
 have q2 : ∃ k : Int, k ≠ 0 ∧ (vs 2) = .tuple #[.map none, .int .i64 k] := hp 2 kd
 have q3 : vs 3 = _ := hp 3 kd
 have q4 : ∃ k : Int, k ≠ 0 ∧ (vs 4) = .int .i64 k := hp 4 kd
 have q5 : vs 5 = _ := hp 5 kd
 have q6 : ∃ k : Int, k ≠ 0 ∧ (vs 6) = .int .i64 k := hp 6 kd
 clear hp
 simp only [fillS, Nat.reduceAdd, Nat.zero_add, q0, q3, q5] at hb
 subst hb
 refine wpList_nil ?_
 clear q0 q3 q5
 clear q1 q2 q4
 obtain ⟨k, hk, hv⟩ := q6
 rw [hv]
 clear hv
 refine HK2.out _ _ ?_; clear HK2
 refine wp_seq_h fun K3 HK3 => ?_
 refine wp_seq_h fun K4 HK4 => ?_
 refine wp_listed (R := fun W W' => Below W.heap.size W W') 2 [.val (.int .i64 k), .val (.bool (k != 0))] (fun W => Below w.heap.size w W) kr hG ?_ ?_
 · intro vs W hG b hb
   have e6 : b.eval (.tmp 6) = .int .i64 k := eo_ hb
   refine ai ?_ (ai ?_ (trivial))
   · exact mI hG fun hp => e6
   · exact gv rfl hG fun hp K hK => st_bin rfl (ev 17 hb 0 (hp 0 kr)) (eval_const _) b_neq hK
 intro vs W hG hp b hb
 have q1 : vs 1 = _ := hp 1 kd
 clear hp
 simp only [fillS, Nat.reduceAdd, Nat.zero_add, q1] at hb
 subst hb
 refine wpList_nil ?_
 clear q1
 refine HK4.out _ _ ?_; clear HK4
 have hd : (k != 0) = true := by simpa using hk
 rw [hd]
 clear hd
 apply wp_cond_true rfl
 have HG := Lib.hid hG
 clear hG
 go_wp2
 have HG := HG.out
 first | go_ret3 | (rw [Exit.noGoto_ret]; go_ret3)
 exact ⟨k, hk, rfl, HG⟩
set_option maxHeartbeats 16000000 in
theorem layout_good (A : Option Addr) (c : Nat) (l : List S34) (w : World) (hl : l.length ≤ 4000) (hI : ∀ x ∈ l, In64 x.f2) (hJ : ∀ x ∈ l, In32 x.f1.f4) (hC : Kd.C k34 w A l.length l) (ho : okL l) :
 Calls Try.prog 8 #[.slice A l.length c] w fun e w' => ∃ (far : Nat → Bool) (adb : Addr) (cb gf : Nat), e = .returned (.tuple #[.slice (some adb) (l.length + 1) cb, .slice (some ⟨gf, 0, none⟩) l.length l.length, .int .i64 0]) ∧ (l.length + 1 ≤ cb ∧ Kd.C (Kd.int .i64) w' (some adb) (l.length + 1) (begs l far (l.length + 1)) ∧ Kd.C Kd.bool w' (some ⟨gf, 0, none⟩) l.length (farL far l.length)) ∧ (good l far ∧ FI l far) ∧ Below w.heap.size w w' := by
 have HL := Lib.hid hl
 have HI := Lib.hid hI
 have HJ := Lib.hid hJ
 have HC := Lib.hid hC
 clear hl hI hJ hC
 go_enter Try.func8, Try.ntmps8
 refine wp_seq_h fun K51 HK51 => ?_
 refine wp_listed (R := fun W W' => Below W.heap.size W W') 3 [.val (Value.slice none 0 0), .val (Value.slice none 0 0), .val (.int .i64 0)] (fun W => Below w.heap.size w W) kr br ?_ ?_
 · intro vs W hG b hb
   exact lfxRl80
 intro vs W hG hp b hb
 have q0 : vs 0 = _ := hp 0 kd
 have q1 : vs 1 = _ := hp 1 kd
 have q2 : vs 2 = _ := hp 2 kd
 clear hp
 simp only [fillS, Nat.reduceAdd, Nat.zero_add, q0, q1, q2] at hb
 subst hb
 refine wpList_nil ?_
 clear q0 q1 q2
 refine HK51.out _ _ ?_; clear HK51
 refine wp_scope_pass 0 (fun a W => (∃ vs, a = setSlots [1, 2, 3, 4, 5, 6, 7, 8, 9, 10, 11, 12, 13, 14, 15, 16, 17, 18, 19, 20, 21, 22, 23, 24, 25, 26, 27, 28, 29, 30, 31, 32, 33, 34, 35, 36, 37, 38, 39, 40, 41, 42, 43, 44, 45, 46, 47, 48, 49, 50, 51, 52, 53, 54, 55, 56, 57, 58, 59, 60, 61, 62, 63, 64, 65, 66, 67, 68, 69, 70, 71] vs { tmps := #[.slice A l.length c, undef, undef, undef, undef, undef, undef, undef, undef, undef, undef, undef, undef, undef, undef, undef, undef, undef, undef, undef, undef, undef, undef, undef, undef, undef, undef, undef, undef, undef, undef, undef, undef, undef, undef, undef, undef, undef, undef, undef, undef, undef, undef, undef, undef, undef, undef, undef, undef, undef, undef, undef, undef, undef, undef, undef, undef, undef, undef, undef, undef, undef, undef, undef, undef, undef, undef, undef, undef, undef, undef, undef], defers := [] }) ∧ ∃ (gm gf : Nat) (far : Nat → Bool), Slot a 5 = .map (some gm) ∧ Slot a 7 = .slice (some ⟨gf, 0, none⟩) l.length l.length ∧ (w.heap.size ≤ gm ∧ gm < gf) ∧ FI l far ∧ Below w.heap.size w W ∧ mapIs W gm l.length (lab l l.length) ∧ W.heap[gf]? = some (.cells (boolA far l.length) 4 (0, 0))) (fun a W => unfV (Slot a 7) W) rfl (fun pass => ?_) ?_
 · skip
   refine wp_seq_h fun K52 HK52 => ?_
   refine wp_listed (R := fun W W' => Below W.heap.size W W') 7 [.val (.slice A l.length c), pairSpec l.length (lab l l.length) w.heap.size (.int .i64 0), pairSpec l.length (lab l l.length) w.heap.size (.int .i64 0), mapSpec l.length (lab l l.length) w.heap.size, .val (.int .i64 0), mapSpec l.length (lab l l.length) w.heap.size, .val (.int .i64 0)] (fun W => Below w.heap.size w W) kr hG ?_ ?_
   · intro vs W hG b hb
     have e0 : b.eval (.tmp 0) = .slice A l.length c := eo_ hb
     refine ai ?_ (ai ?_ (ai ?_ (ai ?_ (ai ?_ (ai ?_ (ai ?_ (trivial)))))))
     · exact mI hG fun hp => e0
     · refine g0 fun hp K hK => ?_; have e13 : b.eval (.tmp 13) = _ := ev 13 hb 0 (hp 0 kr); refine st_call rfl (m_63) kr ?_; refine (check_good A c l _ (Nat.le_trans HL.out (by decide)) HI.out (Kd.C_below HC.out hG) ho).mono ?_; rintro e w' ⟨g, rfl, hm, hgm, hb'⟩; replace hgm := Nat.le_trans hG.size hgm; exact ⟨_, rfl, hK _ _ ⟨_, rfl, hm, hgm⟩ (below_step hG hb') hb'⟩
     · refine g0 fun hp K hK => ?_; have q1 : ∃ g, (vs 1) = .tuple #[.map (some g), .int .i64 0] ∧ mapIs W g l.length (lab l l.length) ∧ w.heap.size ≤ g := hp 1 kr; obtain ⟨gm, hv, hm, hgm⟩ := q1; have e14 := (ei_ 14 hb 1).trans hv; exact st_move (.inl rfl) (e14) (hK _ _ ⟨_, rfl, hm, hgm⟩ hG br)
     · refine g0 fun hp K hK => ?_; have q2 : ∃ g, (vs 2) = .tuple #[.map (some g), .int .i64 0] ∧ mapIs W g l.length (lab l l.length) ∧ w.heap.size ≤ g := hp 2 kr; obtain ⟨gm, hv, hm, hgm⟩ := q2; have e12 := (ei_ 12 hb 2).trans hv; exact st_extract rfl (e12) kr (hK _ _ ⟨_, rfl, hm, hgm⟩ hG br)
     · refine g0 fun hp K hK => ?_; have q2 : ∃ g, (vs 2) = .tuple #[.map (some g), .int .i64 0] ∧ mapIs W g l.length (lab l l.length) ∧ w.heap.size ≤ g := hp 2 kr; obtain ⟨gm, hv, hm, hgm⟩ := q2; have e12 := (ei_ 12 hb 2).trans hv; exact st_extract rfl (e12) kr (hK _ _ rfl hG br)
     · refine g0 fun hp K hK => ?_; have q3 : ∃ g, (vs 3) = .map (some g) ∧ mapIs W g l.length (lab l l.length) ∧ w.heap.size ≤ g := hp 3 kr; obtain ⟨gm, hv, hm, hgm⟩ := q3; have e15 := (ei_ 15 hb 3).trans hv; exact st_move (.inr rfl) (e15) (hK _ _ ⟨_, rfl, hm, hgm⟩ hG br)
     · exact gv rfl hG fun hp K hK => st_move (.inr rfl) (ev 16 hb 4 (hp 4 kr)) hK
   intro vs W hG hp b hb
   have q1 : ∃ g, (vs 1) = .tuple #[.map (some g), .int .i64 0] ∧ mapIs W g l.length (lab l l.length) ∧ w.heap.size ≤ g := hp 1 kd
   have q2 : ∃ g, (vs 2) = .tuple #[.map (some g), .int .i64 0] ∧ mapIs W g l.length (lab l l.length) ∧ w.heap.size ≤ g := hp 2 kd
   have q3 : ∃ g, (vs 3) = .map (some g) ∧ mapIs W g l.length (lab l l.length) ∧ w.heap.size ≤ g := hp 3 kd
   have q5 : ∃ g, (vs 5) = .map (some g) ∧ mapIs W g l.length (lab l l.length) ∧ w.heap.size ≤ g := hp 5 kd
   have q6 : vs 6 = _ := hp 6 kd
   clear hp
   simp only [fillS, Nat.reduceAdd, Nat.zero_add, q6] at hb
   subst hb
   refine wpList_nil ?_
   clear q6
   clear q1 q2 q3
   obtain ⟨gm, hv, hm, hgm⟩ := q5
   rw [hv]
   clear hv
   refine HK52.out _ _ ?_; clear HK52
   replace hG : Below w.heap.size w W ∧ mapIs W gm l.length (lab l l.length) := ⟨hG, hm⟩
   clear hm
   refine wp_seq_h fun K53 HK53 => ?_
   refine wp_seq_h fun K54 HK54 => ?_
   refine wp_listed (R := fun W W' => Below W.heap.size W W') 2 [.val (.int .i64 0), .val (.bool (0 != 0))] (fun W => Below w.heap.size w W ∧ mapIs W gm l.length (lab l l.length)) kr hG ?_ ?_
   · intro vs W hG b hb
     have e6 : b.eval (.tmp 6) = .int .i64 0 := eo_ hb
     refine ai ?_ (ai ?_ (trivial))
     · exact mI hG fun hp => e6
     · exact gv rfl hG fun hp K hK => st_bin rfl (ev 17 hb 0 (hp 0 kr)) (eval_const _) b_neq hK
   intro vs W hG hp b hb
   have q1 : vs 1 = _ := hp 1 kd
   clear hp
   simp only [fillS, Nat.reduceAdd, Nat.zero_add, q1] at hb
   subst hb
   refine wpList_nil ?_
   clear q1
   refine HK54.out _ _ ?_; clear HK54
   apply wp_cond_false rfl
   apply wp_skip
   simp only [Exit.then]
   refine HK53.out _ _ ?_; clear HK53
   refine wp_seq_h fun K55 HK55 => ?_
   refine wp_listed (R := fun W W' => Below W.heap.size W W') 4 [.val (.slice A l.length c), .val (.int .i64 (l.length : Int)), ⟨fun v W => ∃ g, v = .slice (some ⟨g, 0, none⟩) l.length l.length ∧ W.heap[g]? = some (.cells (boolA (fun _ => false) l.length) 4 (0, 0)) ∧ gm < g, fun _ _ _ ⟨g, h1, h2, h3⟩ hb => ⟨g, h1, blk_below h2 hb, h3⟩⟩, ⟨fun v W => ∃ g, v = .slice (some ⟨g, 0, none⟩) l.length l.length ∧ W.heap[g]? = some (.cells (boolA (fun _ => false) l.length) 4 (0, 0)) ∧ gm < g, fun _ _ _ ⟨g, h1, h2, h3⟩ hb => ⟨g, h1, blk_below h2 hb, h3⟩⟩] (fun W => Below w.heap.size w W ∧ mapIs W gm l.length (lab l l.length)) kr hG ?_ ?_
   · intro vs W hG b hb
     have e0 : b.eval (.tmp 0) = .slice A l.length c := eo_ hb
     refine ai ?_ (ai ?_ (ai ?_ (ai ?_ (trivial))))
     · exact mI hG fun hp => e0
     · refine g0 fun hp K hK => ?_; have e20 : b.eval (.tmp 20) = _ := ev 20 hb 0 (hp 0 kr); exact st_builtin rfl (by first | (simp only [List.map_toArray, List.map_cons, List.map_nil, eval_const, e20]; done) | (simp only [List.map_toArray, List.map_cons, List.map_nil, eval_const, e20]; rfl)) (fun cs => b_len 23 (by decide) cs _) (hK _ _ rfl hG br)
     · refine g0 fun hp K hK => ?_; have e21 : b.eval (.tmp 21) = _ := ev 21 hb 1 (hp 1 kr); exact st_makeSlice rfl (e21) (e21) (mk26 _ l.length HL.out) (hK _ _ ⟨_, rfl, blk_new _ _, mapIs_lt hG.2⟩ ⟨hG.1.alloc hG.1.size _, mapIs_alloc hG.2 _⟩ (br.alloc (Nat.le_refl _) _))
     · refine g0 fun hp K hK => ?_; have q2 : ∃ g, (vs 2) = .slice (some ⟨g, 0, none⟩) l.length l.length ∧ W.heap[g]? = some (.cells (boolA (fun _ => false) l.length) 4 (0, 0)) ∧ gm < g := hp 2 kr; obtain ⟨gf, hv, hf, hgf⟩ := q2; have e22 := (ei_ 22 hb 2).trans hv; exact st_move (.inr rfl) (e22) (hK _ _ ⟨_, rfl, hf, hgf⟩ hG br)
   intro vs W hG hp b hb
   have q0 : vs 0 = _ := hp 0 kd
   have q1 : vs 1 = _ := hp 1 kd
   have q2 : ∃ g, (vs 2) = .slice (some ⟨g, 0, none⟩) l.length l.length ∧ W.heap[g]? = some (.cells (boolA (fun _ => false) l.length) 4 (0, 0)) ∧ gm < g := hp 2 kd
   have q3 : ∃ g, (vs 3) = .slice (some ⟨g, 0, none⟩) l.length l.length ∧ W.heap[g]? = some (.cells (boolA (fun _ => false) l.length) 4 (0, 0)) ∧ gm < g := hp 3 kd
   clear hp
   simp only [fillS, Nat.reduceAdd, Nat.zero_add, q0, q1] at hb
   subst hb
   refine wpList_nil ?_
   clear q0 q1
   clear q2
   obtain ⟨gf, hv, hf, hgf⟩ := q3
   rw [hv]
   clear hv
   refine HK55.out _ _ ?_; clear HK55
   replace hG : Below w.heap.size w W ∧ mapIs W gm l.length (lab l l.length) ∧ W.heap[gf]? = some (.cells (boolA (fun _ => false) l.length) 4 (0, 0)) := ⟨hG.1, hG.2, hf⟩
   clear hf
   refine wp_seq_h fun K56 HK56 => ?_
   refine wp_listed (R := fun W W' => Below W.heap.size W W') 1 [.val (Value.slice none 0 0)] (fun W => Below w.heap.size w W ∧ mapIs W gm l.length (lab l l.length) ∧ W.heap[gf]? = some (.cells (boolA (fun _ => false) l.length) 4 (0, 0))) kr hG ?_ ?_
   · intro vs W hG b hb
     refine ai ?_ (trivial)
     · exact gv rfl hG fun hp K hK => st_move (.inr rfl) (eval_const _) hK
   intro vs W hG hp b hb
   have q0 : vs 0 = _ := hp 0 kd
   clear hp
   simp only [fillS, Nat.reduceAdd, Nat.zero_add, q0] at hb
   subst hb
   refine wpList_nil ?_
   clear q0
   refine HK56.out _ _ ?_; clear HK56
   refine wp_seq_h fun K57 HK57 => ?_
   refine wp_listed (R := fun W W' => Below W.heap.size W W') 1 [.val (.bool false)] (fun W => Below w.heap.size w W ∧ mapIs W gm l.length (lab l l.length) ∧ W.heap[gf]? = some (.cells (boolA (fun _ => false) l.length) 4 (0, 0))) kr hG ?_ ?_
   · intro vs W hG b hb
     refine ai ?_ (trivial)
     · exact gv rfl hG fun hp K hK => st_move (.inr rfl) (eval_const _) hK
   intro vs W hG hp b hb
   have q0 : vs 0 = _ := hp 0 kd
   clear hp
   simp only [fillS, Nat.reduceAdd, Nat.zero_add, q0] at hb
   subst hb
   refine wpList_nil ?_
   clear q0
   refine HK57.out _ _ ?_; clear HK57
   refine wp_seq_h fun K58 HK58 => ?_
   refine wp_label ?_
   simp only [Exit.then]
   refine HK58.out _ _ ?_; clear HK58
   refine pass _ _ ?_
   exact ⟨loop_frame kr, gm, gf, fun _ => false, rfl, rfl, ⟨hgm, hgf⟩, FI_none l, hG⟩
 clear hG
 rintro a W ⟨⟨vs, ha⟩, gm, gf, far, h5, h7, ⟨hgm, hgf⟩, hFI, hG⟩
 rw [h7, unfV_is hG.2.2]
 simp only [setSlots, Act.put, List.setIfInBounds_toArray, List.set_cons_succ, List.set_cons_zero] at ha
 subst ha
 replace h5 : vs 5 = .map (some gm) := h5
 replace h7 : vs 7 = .slice (some ⟨gf, 0, none⟩) l.length l.length := h7
 rw [h5, h7]
 clear h5 h7
 have HFI := Lib.hid hFI
 clear hFI
 refine wp_seq_h fun K59 HK59 => ?_
 refine wp_listed (R := fun W W' => Below W.heap.size W W') 5 [.val (.slice A l.length c), .val (.slice (some ⟨gf, 0, none⟩) l.length l.length), intsSpec (begs l far (l.length + 1)) w.heap.size, intsSpec (begs l far (l.length + 1)) w.heap.size, .val (.bool false)] (fun W => Below w.heap.size w W ∧ mapIs W gm l.length (lab l l.length) ∧ W.heap[gf]? = some (.cells (boolA far l.length) 4 (0, 0))) kr hG ?_ ?_
 · intro vs W hG b hb
   have e0 : b.eval (.tmp 0) = .slice A l.length c := eo_ hb
   have e7 : b.eval (.tmp 7) = .slice (some ⟨gf, 0, none⟩) l.length l.length := eo_ hb
   refine ai ?_ (ai ?_ (ai ?_ (ai ?_ (ai ?_ (trivial)))))
   · exact mI hG fun hp => e0
   · exact mI hG fun hp => e7
   · refine g0 fun hp K hK => ?_; have e23 : b.eval (.tmp 23) = _ := ev 23 hb 0 (hp 0 kr); have e24 : b.eval (.tmp 24) = _ := ev 24 hb 1 (hp 1 kr); refine st_call rfl (by first | (simp only [List.map_toArray, List.map_cons, List.map_nil, eval_const, e23, e24]; done) | (simp only [List.map_toArray, List.map_cons, List.map_nil, eval_const, e23, e24]; rfl)) kr ?_; refine (places_is A _ c l.length l far _ (Nat.le_trans HL.out (by decide)) HJ.out (Kd.C_below HC.out hG.1) (C_of_blk hG.2.2 HL.out)).mono ?_; rintro e w' ⟨v, rfl, hR, hb'⟩; replace hR := Kd.R_lower hR hG.1.size; exact ⟨_, rfl, hK _ _ hR ⟨below_step hG.1 hb', mapIs_below hG.2.1 hb', blk_below hG.2.2 hb'⟩ hb'⟩
   · refine g0 fun hp K hK => ?_; have q2 : Kd.R (Kd.int .i64) 3 W w.heap.size (fun _ => True) (vs 2) (begs l far (l.length + 1)) := hp 2 kr; skip; have e25 := (ei_ 25 hb 2); exact st_move (.inr rfl) (e25) (hK _ _ q2 hG br)
   · exact gv rfl hG fun hp K hK => st_move (.inr rfl) (eval_const _) hK
 intro vs W hG hp b hb
 have q2 : Kd.R (Kd.int .i64) 3 W w.heap.size (fun _ => True) (vs 2) (begs l far (l.length + 1)) := hp 2 kd
 have q3 : Kd.R (Kd.int .i64) 3 W w.heap.size (fun _ => True) (vs 3) (begs l far (l.length + 1)) := hp 3 kd
 have q4 : vs 4 = _ := hp 4 kd
 clear hp
 simp only [fillS, Nat.reduceAdd, Nat.zero_add, q4] at hb
 subst hb
 refine wpList_nil ?_
 clear q4
 clear q2
 obtain ⟨Ab, cb, hvb, hcb, hCb⟩ := Kd.R_reads q3
 rw [begs_len] at hvb hcb hCb
 obtain ⟨adb, hAb, -⟩ := ld_beg hCb (i := 0) (by omega)
 subst hAb
 clear hCb
 rw [hvb] at q3 ⊢
 clear hvb
 have HCB := Lib.hid hcb
 clear hcb
 refine HK59.out _ _ ?_; clear HK59
 replace hG : Below w.heap.size w W ∧ mapIs W gm l.length (lab l l.length) ∧ W.heap[gf]? = some (.cells (boolA far l.length) 4 (0, 0)) ∧ Kd.R (Kd.int .i64) 3 W w.heap.size (fun _ => True) (.slice (some adb) (l.length + 1) cb) (begs l far (l.length + 1)) := ⟨hG.1, hG.2.1, hG.2.2, q3⟩
 clear q3
 refine wp_seq_h fun K60 HK60 => ?_
 refine wp_seq_h fun K61 HK61 => ?_
 refine wp_listed (R := fun W W' => Below W.heap.size W W') 3 [.val (.slice A l.length c), .val (.int .i64 (l.length : Int)), .val (.int .i64 0)] (fun W => Below w.heap.size w W ∧ mapIs W gm l.length (lab l l.length) ∧ W.heap[gf]? = some (.cells (boolA far l.length) 4 (0, 0)) ∧ Kd.R (Kd.int .i64) 3 W w.heap.size (fun _ => True) (.slice (some adb) (l.length + 1) cb) (begs l far (l.length + 1))) kr hG ?_ ?_
 · intro vs W hG b hb
   have e0 : b.eval (.tmp 0) = .slice A l.length c := eo_ hb
   refine ai ?_ (ai ?_ (ai ?_ (trivial)))
   · exact mI hG fun hp => e0
   · refine g0 fun hp K hK => ?_; have e26 : b.eval (.tmp 26) = _ := ev 26 hb 0 (hp 0 kr); exact st_builtin rfl (m_62) (fun cs => b_len 23 (by decide) cs _) (hK _ _ rfl hG br)
   · exact mI hG fun hp => eval_const _
 intro vs W hG hp b hb
 have q0 : vs 0 = _ := hp 0 kd
 have q1 : vs 1 = _ := hp 1 kd
 have q2 : vs 2 = _ := hp 2 kd
 clear hp
 simp only [fillS, Nat.reduceAdd, Nat.zero_add, q0, q1, q2] at hb
 subst hb
 refine wpList_nil ?_
 clear q0 q1 q2
 refine HK61.out _ _ ?_; clear HK61
 apply wp_block
 refine wp_loopS [9, 10, 11, 28, 29, 30, 31, 32, 33, 34, 35, 36, 37, 38, 39, 40, 41, 42, 43, 44, 45, 46, 47, 48, 49, 50, 51, 52, 53, 54, 55, 56, 57, 58, 59, 60, 61, 62] (fun sl W => ∃ i : Nat, sl 28 = .int .i64 (i : Int) ∧ (i ≤ l.length ∧ sl 9 = .bool (chg l far i)) ∧ Below w.heap.size w W ∧ mapIs W gm l.length (lab l l.length) ∧ W.heap[gf]? = some (.cells (boolA (nx l far i) l.length) 4 (0, 0)) ∧ Kd.R (Kd.int .i64) 3 W w.heap.size (fun _ => True) (.slice (some adb) (l.length + 1) cb) (begs l far (l.length + 1))) (fun sl W => Msr (l.length : Int) (sl 28)) ⟨0, rfl, ⟨Nat.zero_le _, rfl⟩, by rw [show nx l far 0 = far from by funext j; simp [nx]]; exact hG⟩ ?_
 clear hG
 intro vs W b hb hI
 obtain ⟨i, hsl, ⟨hi, h9⟩, hG⟩ := hI
 simp only [setSlots, Act.put, List.setIfInBounds_toArray, List.set_cons_succ, List.set_cons_zero] at hb
 subst hb
 replace hsl : vs 28 = .int .i64 (i : Int) := hsl
 replace h9 : vs 9 = .bool (chg l far i) := h9
 rw [hsl, h9]
 clear hsl h9
 refine wp_seq_h fun K62 HK62 => ?_
 refine wp_listed (R := fun W W' => Below W.heap.size W W') 1 [.val (.bool (decide ((i : Int) < (l.length : Int))))] (fun W => Below w.heap.size w W ∧ mapIs W gm l.length (lab l l.length) ∧ W.heap[gf]? = some (.cells (boolA (nx l far i) l.length) 4 (0, 0)) ∧ Kd.R (Kd.int .i64) 3 W w.heap.size (fun _ => True) (.slice (some adb) (l.length + 1) cb) (begs l far (l.length + 1))) kr hG ?_ ?_
 · intro vs W hG b hb
   have e27 : b.eval (.tmp 27) = .int .i64 (l.length : Int) := eo_ hb
   have e28 : b.eval (.tmp 28) = .int .i64 (i : Int) := eo_ hb
   refine ai ?_ (trivial)
   · exact gv rfl hG fun hp K hK => st_bin rfl (e28) (e27) b_lss hK
 intro vs W hG hp b hb
 have q0 : vs 0 = _ := hp 0 kd
 clear hp
 simp only [fillS, Nat.reduceAdd, Nat.zero_add, q0] at hb
 subst hb
 refine wpList_nil ?_
 clear q0
 refine HK62.out _ _ ?_; clear HK62
 refine wp_seq_h fun K63 HK63 => ?_
 refine wp_cond_split rfl (fun hlt => ?_) (fun hlt => ?_)
 · skip
   have hil : i < l.length := by have := of_decide_eq_true hlt; omega
   clear hlt
   apply wp_skip
   simp only [Exit.then]
   refine HK63.out _ _ ?_; clear HK63
   have hx : l[i]? = some l[i] := List.getElem?_eq_getElem hil
   have hxm := List.getElem_mem hil
   generalize l[i] = x at hx hxm
   have hgx : l.getD i z34 = x := by simp [List.getD, hx]
   obtain ⟨ad, hAd, -⟩ := ld_it (Kd.C_below HC.out hG.1) hx
   subst hAd
   refine wp_seq_h fun K64 HK64 => ?_
   apply wp_block
   refine wp_seq_h fun K65 HK65 => ?_
   refine wp_listed (R := fun W W' => Below W.heap.size W W') 5 [.val (.int .i64 (i : Int)), .val (.pointer (some (ad.add (i * 7)))), .val (.agg (it x)), newSpec (.cells (it z34) 34 (0, 0)) (gf + 1), .val (.int .i64 (i : Int))] (fun W => Below w.heap.size w W ∧ mapIs W gm l.length (lab l l.length) ∧ W.heap[gf]? = some (.cells (boolA (nx l far i) l.length) 4 (0, 0)) ∧ Kd.R (Kd.int .i64) 3 W w.heap.size (fun _ => True) (.slice (some adb) (l.length + 1) cb) (begs l far (l.length + 1))) kr hG ?_ ?_
   · intro vs W hG b hb
     have e26 : b.eval (.tmp 26) = .slice (some ad) l.length c := eo_ hb
     have e28 : b.eval (.tmp 28) = .int .i64 (i : Int) := eo_ hb
     refine ai ?_ (ai ?_ (ai ?_ (ai ?_ (ai ?_ (trivial)))))
     · exact mI hG fun hp => e28
     · exact gv rfl hG fun hp K hK => st_index rfl (e26) (e28) (ix23 hil _) hK
     · exact gv rfl hG fun hp K hK => st_load rfl (ev 31 hb 1 (hp 1 kr)) (m_43) hK
     · exact g0 fun hp K hK => st_alloc rfl (new34 _) (hK _ _ ⟨_, rfl, blk_new _ _, blk_lt hG.2.2.1⟩ ⟨hG.1.alloc hG.1.size _, mapIs_alloc hG.2.1 _, blk_alloc hG.2.2.1 _, Kd.R_alloc hG.2.2.2 _⟩ (br.alloc (Nat.le_refl _) _))
     · exact gv rfl hG fun hp K hK => st_move (.inr rfl) (ev 30 hb 0 (hp 0 kr)) hK
   intro vs W hG hp b hb
   have q0 : vs 0 = _ := hp 0 kd
   have q1 : vs 1 = _ := hp 1 kd
   have q2 : vs 2 = _ := hp 2 kd
   have q3 : ∃ gg, (vs 3) = .pointer (some ⟨gg, 0, none⟩) ∧ W.heap[gg]? = some (.cells (it z34) 34 (0, 0)) ∧ gf + 1 ≤ gg := hp 3 kd
   have q4 : vs 4 = _ := hp 4 kd
   clear hp
   simp only [fillS, Nat.reduceAdd, Nat.zero_add, q0, q1, q2, q4] at hb
   subst hb
   simp only [List.append_eq, List.cons_append, List.nil_append, List.drop_succ_cons, List.drop_zero]
   clear q0 q1 q2 q4
   obtain ⟨gx, hv, Ax, hg⟩ := q3
   rw [hv]
   clear hv
   refine wpList_store_mid rfl 34 (.tmp 11) (.tmp 32) rfl gx 0 (it x) rfl rfl (by have h := blk_there Ax; exact h) kr kr ?_
   refine wpList_nil ?_
   simp only [Act.put]
   have hG2 : (Below w.heap.size w (W.setCells gx 0 (it x).toList) ∧ mapIs (W.setCells gx 0 (it x).toList) gm l.length (lab l l.length) ∧ (W.setCells gx 0 (it x).toList).heap[gf]? = some (.cells (boolA (nx l far i) l.length) 4 (0, 0)) ∧ Kd.R (Kd.int .i64) 3 (W.setCells gx 0 (it x).toList) w.heap.size (fun _ => True) (.slice (some adb) (l.length + 1) cb) (begs l far (l.length + 1))) ∧ (W.setCells gx 0 (it x).toList).heap[gx]? = some (.cells (it x) 34 (0, 0)) := ⟨⟨below_sets _ 0 w W gx hG.1 (by omega), mapIs_sets hG.2.1 (by omega) 0, blk_puts_far hG.2.2.1 (by omega), row_sets3 rfl hG.2.2.2 Ax (by decide)⟩, blk_puts (cs' := it x) Ax rfl⟩
   clear Ax hG
   generalize W.setCells gx 0 (it x).toList = V at hG2 ⊢
   clear W
   refine HK65.out _ _ ?_; clear HK65
   refine wp_seq_h fun K66 HK66 => ?_
   have hal := at_lt l x.f2
   have hba := beg_in l far (at_ l x.f2)
   have hbi := beg_in l far i
   refine wp_drawn (R := fun W W' => Below W.heap.size W W') 26 [.val (.pointer (some ⟨gx, 0, none⟩)), .val (.int .i64 x.f0), .val (.bool (x.f0 == 3)), .val (.bool (x.f0 == 3)), .val ((bif ((x.f0 == 3) == true) then (.slice (some ⟨gf, 0, none⟩) l.length l.length) else undef)), .val ((bif ((x.f0 == 3) == true) then (.int .i64 (i : Int)) else undef)), .val ((bif ((x.f0 == 3) == true) then (.pointer (some ⟨gf, 0 + i, none⟩)) else undef)), .val ((bif ((x.f0 == 3) == true) then (.bool (nx l far i i)) else undef)), .val ((bif ((x.f0 == 3) == true) then (.bool (!(nx l far i i))) else undef)), .val (.bool ((x.f0 == 3) && (!(nx l far i i)))), .val (.bool ((x.f0 == 3) && (!(nx l far i i)))), .val ((bif (((x.f0 == 3) && (!(nx l far i i))) == true) then (.slice (some adb) (l.length + 1) cb) else undef)), .val ((bif (((x.f0 == 3) && (!(nx l far i i))) == true) then (.map (some gm)) else undef)), .val ((bif (((x.f0 == 3) && (!(nx l far i i))) == true) then (.pointer (some ⟨gx, 6, none⟩)) else undef)), .val ((bif (((x.f0 == 3) && (!(nx l far i i))) == true) then (.int .i64 x.f2) else undef)), .val ((bif (((x.f0 == 3) && (!(nx l far i i))) == true) then (.int .i64 ((at_ l x.f2) : Int)) else undef)), .val ((bif (((x.f0 == 3) && (!(nx l far i i))) == true) then (.pointer (some (adb.add (at_ l x.f2)))) else undef)), .val ((bif (((x.f0 == 3) && (!(nx l far i i))) == true) then (.int .i64 (beg l far (at_ l x.f2))) else undef)), .val ((bif (((x.f0 == 3) && (!(nx l far i i))) == true) then (.slice (some adb) (l.length + 1) cb) else undef)), .val ((bif (((x.f0 == 3) && (!(nx l far i i))) == true) then (.int .i64 (i : Int)) else undef)), .val ((bif (((x.f0 == 3) && (!(nx l far i i))) == true) then (.pointer (some (adb.add i))) else undef)), .val ((bif (((x.f0 == 3) && (!(nx l far i i))) == true) then (.int .i64 (beg l far i)) else undef)), .val ((bif (((x.f0 == 3) && (!(nx l far i i))) == true) then (.int .i64 (beg l far (at_ l x.f2) - beg l far i)) else undef)), .val ((bif (((x.f0 == 3) && (!(nx l far i i))) == true) then (.bool (decide ((-4096) ≤ (beg l far (at_ l x.f2) - beg l far i) ∧ (beg l far (at_ l x.f2) - beg l far i) ≤ 4094))) else undef)), .val ((bif (((x.f0 == 3) && (!(nx l far i i))) == true) then (.bool (!(decide ((-4096) ≤ (beg l far (at_ l x.f2) - beg l far i) ∧ (beg l far (at_ l x.f2) - beg l far i) ≤ 4094)))) else undef)), .val (.bool (((x.f0 == 3) && (!(nx l far i i))) && (!(decide ((-4096) ≤ (beg l far (at_ l x.f2) - beg l far i) ∧ (beg l far (at_ l x.f2) - beg l far i) ≤ 4094)))))] (fun W => (Below w.heap.size w W ∧ mapIs W gm l.length (lab l l.length) ∧ W.heap[gf]? = some (.cells (boolA (nx l far i) l.length) 4 (0, 0)) ∧ Kd.R (Kd.int .i64) 3 W w.heap.size (fun _ => True) (.slice (some adb) (l.length + 1) cb) (begs l far (l.length + 1))) ∧ W.heap[gx]? = some (.cells (it x) 34 (0, 0))) rfl kr ⟨⟨hG2.1.1.drew, hG2.1.2.1, hG2.1.2.2.1, Kd.R_drew hG2.1.2.2.2⟩, hG2.2⟩ ?_ ?_
   · intro vs W hG b hb
     have i36 := ei_ 36 hb 3
     have i43 := ei_ 43 hb 10
     have e5 : b.eval (.tmp 5) = .map (some gm) := eo_ hb
     have e7 : b.eval (.tmp 7) = .slice (some ⟨gf, 0, none⟩) l.length l.length := eo_ hb
     have e8 : b.eval (.tmp 8) = .slice (some adb) (l.length + 1) cb := eo_ hb
     have e10 : b.eval (.tmp 10) = .int .i64 (i : Int) := eo_ hb
     have e11 : b.eval (.tmp 11) = .pointer (some ⟨gx, 0, none⟩) := eo_ hb
     refine ai ?_ (ai ?_ (ai ?_ (ai ?_ (ai ?_ (ai ?_ (ai ?_ (ai ?_ (ai ?_ (ai ?_ (ai ?_ (ai ?_ (ai ?_ (ai ?_ (ai ?_ (ai ?_ (ai ?_ (ai ?_ (ai ?_ (ai ?_ (ai ?_ (ai ?_ (ai ?_ (ai ?_ (ai ?_ (ai ?_ (trivial))))))))))))))))))))))))))
     · exact gv rfl hG fun hp K hK => st_field rfl (e11) kr hK
     · exact gv rfl hG fun hp K hK => st_load rfl (ev 33 hb 0 (hp 0 kr)) (ld_cell 3 kr ((blk_cell hG.2 0).trans rfl)) hK
     · exact gv rfl hG fun hp K hK => st_bin rfl (ev 34 hb 1 (hp 1 kr)) (eval_const _) b_eql hK
     · exact mI hG fun hp => ev 35 hb 2 (hp 2 kr)
     · exact gI 3 36 (x.f0 == 3) true i36 hG fun hp K hK hc => st_move (.inl rfl) (e7) (hK _ _ (cond_yes hc).symm hG br)
     · exact gI 3 36 (x.f0 == 3) true i36 hG fun hp K hK hc => st_move (.inl rfl) (e10) (hK _ _ (cond_yes hc).symm hG br)
     · exact gI 3 36 (x.f0 == 3) true i36 hG fun hp K hK hc => st_index rfl ((ev 37 hb 4 (hp 4 kr)).trans (cond_yes hc)) ((ev 38 hb 5 (hp 5 kr)).trans (cond_yes hc)) (by have h := ix26 (ad := ⟨gf, 0, none⟩) (c := l.length) hil W; rwa [Addr.add_mid] at h) (hK _ _ (cond_yes hc).symm hG br)
     · exact gI 3 36 (x.f0 == 3) true i36 hG fun hp K hK hc => st_load rfl ((ev 39 hb 6 (hp 6 kr)).trans (cond_yes hc)) (ld_cell 4 kr ((blk_cell hG.1.2.2.1 (0 + i)).trans (by rw [Nat.zero_add]; exact boolA_get _ hil))) (hK _ _ (cond_yes hc).symm hG br)
     · exact gI 3 36 (x.f0 == 3) true i36 hG fun hp K hK hc => st_un rfl ((ev 40 hb 7 (hp 7 kr)).trans (cond_yes hc)) u_not (hK _ _ (cond_yes hc).symm hG br)
     · refine g0 fun hp K hK => ?_; have e36 : b.eval (.tmp 36) = _ := ev 36 hb 3 (hp 3 kr); have e41 : b.eval (.tmp 41) = _ := ev 41 hb 8 (hp 8 kr); exact st_pick rfl (e36) (by first | (rw [e41]; exact pick_and) | (rw [show b.eval (Operand.tmp 41) = _ from eval_const _]; exact pick_and)) (hK _ _ rfl hG br)
     · exact mI hG fun hp => ev 42 hb 9 (hp 9 kr)
     · exact gI 10 43 ((x.f0 == 3) && (!(nx l far i i))) true i43 hG fun hp K hK hc => st_move (.inl rfl) (e8) (hK _ _ (cond_yes hc).symm hG br)
     · exact gI 10 43 ((x.f0 == 3) && (!(nx l far i i))) true i43 hG fun hp K hK hc => st_move (.inl rfl) (e5) (hK _ _ (cond_yes hc).symm hG br)
     · exact gI 10 43 ((x.f0 == 3) && (!(nx l far i i))) true i43 hG fun hp K hK hc => st_field rfl (e11) kr (hK _ _ (cond_yes hc).symm hG br)
     · exact gI 10 43 ((x.f0 == 3) && (!(nx l far i i))) true i43 hG fun hp K hK hc => st_load rfl ((ev 46 hb 13 (hp 13 kr)).trans (cond_yes hc)) (ld_cell 3 kr ((blk_cell hG.2 6).trans rfl)) (hK _ _ (cond_yes hc).symm hG br)
     · exact gI 10 43 ((x.f0 == 3) && (!(nx l far i i))) true i43 hG fun hp K hK hc => st_lookup rfl ((ev 45 hb 12 (hp 12 kr)).trans (cond_yes hc)) ((ev 47 hb 14 (hp 14 kr)).trans (cond_yes hc)) (look_at hG.1.2.1 (HI.out _ hxm)) (hK _ _ (cond_yes hc).symm hG br)
     · exact gI 10 43 ((x.f0 == 3) && (!(nx l far i i))) true i43 hG fun hp K hK hc => st_index rfl ((ev 44 hb 11 (hp 11 kr)).trans (cond_yes hc)) ((ev 48 hb 15 (hp 15 kr)).trans (cond_yes hc)) (ix25n hal _) (hK _ _ (cond_yes hc).symm hG br)
     · exact gI 10 43 ((x.f0 == 3) && (!(nx l far i i))) true i43 hG fun hp K hK hc => st_load rfl ((ev 49 hb 16 (hp 16 kr)).trans (cond_yes hc)) (by obtain ⟨a', ha', hl'⟩ := ld_beg (C_begs hG.1.2.2.2) hal; rw [Option.some.inj ha']; exact ld_cell 3 kr hl') (hK _ _ (cond_yes hc).symm hG br)
     · exact gI 10 43 ((x.f0 == 3) && (!(nx l far i i))) true i43 hG fun hp K hK hc => st_move (.inl rfl) (e8) (hK _ _ (cond_yes hc).symm hG br)
     · exact gI 10 43 ((x.f0 == 3) && (!(nx l far i i))) true i43 hG fun hp K hK hc => st_move (.inl rfl) (e10) (hK _ _ (cond_yes hc).symm hG br)
     · exact gI 10 43 ((x.f0 == 3) && (!(nx l far i i))) true i43 hG fun hp K hK hc => st_index rfl ((ev 51 hb 18 (hp 18 kr)).trans (cond_yes hc)) ((ev 52 hb 19 (hp 19 kr)).trans (cond_yes hc)) (ix25n (Nat.lt_succ_of_lt hil) _) (hK _ _ (cond_yes hc).symm hG br)
     · exact gI 10 43 ((x.f0 == 3) && (!(nx l far i i))) true i43 hG fun hp K hK hc => st_load rfl ((ev 53 hb 20 (hp 20 kr)).trans (cond_yes hc)) (by obtain ⟨a', ha', hl'⟩ := ld_beg (C_begs hG.1.2.2.2) (Nat.lt_succ_of_lt hil); rw [Option.some.inj ha']; exact ld_cell 3 kr hl') (hK _ _ (cond_yes hc).symm hG br)
     · exact gI 10 43 ((x.f0 == 3) && (!(nx l far i i))) true i43 hG fun hp K hK hc => st_bin rfl ((ev 50 hb 17 (hp 17 kr)).trans (cond_yes hc)) ((ev 54 hb 21 (hp 21 kr)).trans (cond_yes hc)) (b_sub (IntWalk.i64_in _ (m_55))) (hK _ _ (cond_yes hc).symm hG br)
     · refine gI 10 43 ((x.f0 == 3) && (!(nx l far i i))) true i43 hG fun hp K hK hc => ?_; have e55 : b.eval (.tmp 55) = _ := ev 55 hb 22 (hp 22 kr); replace e55 := e55.trans (cond_yes hc); refine st_call rfl (by first | (simp only [List.map_toArray, List.map_cons, List.map_nil, eval_const, e55]; done) | (simp only [List.map_toArray, List.map_cons, List.map_nil, eval_const, e55]; rfl)) kr ?_; refine (relax_within.calls (beg l far (at_ l x.f2) - beg l far i) (-4096) 4094 (decide ((-4096) ≤ (beg l far (at_ l x.f2) - beg l far i) ∧ (beg l far (at_ l x.f2) - beg l far i) ≤ 4094)) _ (within_some _ _ _)).mono ?_; rintro e w' ⟨rfl, hd⟩; have hc' := below_drawn hd; exact ⟨_, rfl, hK _ _ (cond_yes hc).symm ⟨⟨below_step hG.1.1 hc', mapIs_below hG.1.2.1 hc', blk_below hG.1.2.2.1 hc', Kd.R_below hG.1.2.2.2 hc'⟩, blk_below hG.2 hc'⟩ hc'⟩
     · exact gI 10 43 ((x.f0 == 3) && (!(nx l far i i))) true i43 hG fun hp K hK hc => st_un rfl ((ev 56 hb 23 (hp 23 kr)).trans (cond_yes hc)) u_not (hK _ _ (cond_yes hc).symm hG br)
     · refine g0 fun hp K hK => ?_; have e43 : b.eval (.tmp 43) = _ := ev 43 hb 10 (hp 10 kr); have e57 : b.eval (.tmp 57) = _ := ev 57 hb 24 (hp 24 kr); exact st_pick rfl (e43) (by first | (rw [e57]; exact pick_and) | (rw [show b.eval (Operand.tmp 57) = _ from eval_const _]; exact pick_and)) (hK _ _ rfl hG br)
   intro vs W hG hp b hb
   have q25 : vs 25 = _ := hp 25 kd
   clear hp
   simp only [fillS, Nat.reduceAdd, Nat.zero_add, q25] at hb
   subst hb
   refine wpList_nil ?_
   clear q25
   clear hG2
   refine HK66.out _ _ ?_; clear HK66
   have hc : (((x.f0 == 3) && (!(nx l far i i))) && (!(decide ((-4096) ≤ (beg l far (at_ l x.f2) - beg l far i) ∧ (beg l far (at_ l x.f2) - beg l far i) ≤ 4094)))) = (!far i && bad l far i) := by
    have e1 : nx l far i i = far i := by unfold nx; simp
    have e2 : bad l far i = ((x.f0 == 3) && !(decide (-4096 ≤ beg l far (at_ l x.f2) - beg l far i ∧ beg l far (at_ l x.f2) - beg l far i ≤ 4094))) := by unfold bad off; rw [hgx]
    rw [e1, e2]
    cases far i <;> cases (x.f0 == 3) <;> rfl
   rw [hc]
   clear hc hal hba hbi
   have hinc : IntKind.i64.wrap ((i : Int) + 1) = (i : Int) + 1 := IntWalk.i64_in _ (m_55)
   refine wp_cond_split rfl (fun hc => ?_) (fun hc => ?_)
   · skip
     refine wp_listed (R := fun W W' => Below W.heap.size W W') 3 [.val (.slice (some ⟨gf, 0, none⟩) l.length l.length), .val (.int .i64 (i : Int)), .val (.pointer (some ⟨gf, i, none⟩))] (fun W => Below w.heap.size w W ∧ mapIs W gm l.length (lab l l.length) ∧ W.heap[gf]? = some (.cells (boolA (nx l far i) l.length) 4 (0, 0)) ∧ Kd.R (Kd.int .i64) 3 W w.heap.size (fun _ => True) (.slice (some adb) (l.length + 1) cb) (begs l far (l.length + 1))) kr hG.1 ?_ ?_
     · intro vs W hG b hb
       have e7 : b.eval (.tmp 7) = .slice (some ⟨gf, 0, none⟩) l.length l.length := eo_ hb
       have e10 : b.eval (.tmp 10) = .int .i64 (i : Int) := eo_ hb
       refine ai ?_ (ai ?_ (ai ?_ (trivial)))
       · exact mI hG fun hp => e7
       · exact mI hG fun hp => e10
       · exact gv rfl hG fun hp K hK => st_index rfl (ev 59 hb 0 (hp 0 kr)) (ev 60 hb 1 (hp 1 kr)) (by have h := ix26 (ad := ⟨gf, 0, none⟩) (c := l.length) hil W; rwa [Addr.add_mid, Nat.zero_add] at h) hK
     intro vs W hG hp b hb
     have q0 : vs 0 = _ := hp 0 kd
     have q1 : vs 1 = _ := hp 1 kd
     have q2 : vs 2 = _ := hp 2 kd
     clear hp
     simp only [fillS, Nat.reduceAdd, Nat.zero_add, q0, q1, q2] at hb
     subst hb
     simp only [List.append_eq, List.cons_append, List.nil_append, List.drop_succ_cons, List.drop_zero]
     clear q0 q1 q2
     have z : W.cell? ⟨gf, i, none⟩ = some (.bool (nx l far i i)) := (blk_cell hG.2.2.1 i).trans (boolA_get _ hil)
     have y := blk_frozen hG.2.2.1 i
     have HG := Lib.hid hG
     have Hil := Lib.hid hil
     clear hG hil hi
     go_wp2
     have hnp := nx_put hc
     have hG3 : Below w.heap.size w (W.setCell ⟨gf, i, none⟩ (.bool true)) ∧ mapIs (W.setCell ⟨gf, i, none⟩ (.bool true)) gm l.length (lab l l.length) ∧ (W.setCell ⟨gf, i, none⟩ (.bool true)).heap[gf]? = some (.cells (boolA (nx l far (i + 1)) l.length) 4 (0, 0)) ∧ Kd.R (Kd.int .i64) 3 (W.setCell ⟨gf, i, none⟩ (.bool true)) w.heap.size (fun _ => True) (.slice (some adb) (l.length + 1) cb) (begs l far (l.length + 1)) := ⟨below_set HG.out.1 (by omega), mapIs_setCell HG.out.2.1 (by omega), by rw [hnp.1]; exact blk_put HG.out.2.2.1 i _ (boolA_put _ Hil.out), ints_setCell HG.out.2.2.2 HG.out.2.2.1⟩
     have HG3 := Lib.hid hG3
     clear hG3 HG z y
     generalize W.setCell ⟨gf, i, none⟩ (.bool true) = V at *
     refine HK64.out _ _ ?_; clear HK64
     go_wp2
     exact ⟨loop_frame kr, ⟨i + 1, m_56, ⟨Hil.out, by rw [hnp.2]; rfl⟩, HG3.out⟩, Msr.lt (by have := Hil.out; omega)⟩
   have hns := nx_skip hc
   apply wp_skip
   simp only [Exit.inBlock, Exit.then, ↓reduceIte]
   refine HK64.out _ _ ?_; clear HK64
   have HG := Lib.hid hG.1
   have Hil := Lib.hid hil
   clear hG hil hi
   go_wp2
   exact ⟨loop_frame kr, ⟨i + 1, m_56, ⟨Hil.out, by rw [hns.2]; rfl⟩, by rw [hns.1]; exact HG.out⟩, Msr.lt (by have := Hil.out; omega)⟩
 have hle : i = l.length := by have := of_decide_eq_false hlt; omega
 clear hlt
 apply wp_exit
 simp only [Exit.inBlock, Exit.then, ↓reduceIte]
 subst hle
 clear hi
 refine HK60.out _ _ ?_; clear HK60
 refine wp_seq_h fun K67 HK67 => ?_
 refine wp_seq_h fun K68 HK68 => ?_
 refine wp_listed (R := fun W W' => Below W.heap.size W W') 1 [.val (.bool (chg l far l.length))] (fun W => Below w.heap.size w W ∧ mapIs W gm l.length (lab l l.length) ∧ W.heap[gf]? = some (.cells (boolA (nx l far l.length) l.length) 4 (0, 0)) ∧ Kd.R (Kd.int .i64) 3 W w.heap.size (fun _ => True) (.slice (some adb) (l.length + 1) cb) (begs l far (l.length + 1))) kr hG ?_ ?_
 · intro vs W hG b hb
   have e9 : b.eval (.tmp 9) = .bool (chg l far l.length) := eo_ hb
   refine ai ?_ (trivial)
   · exact mI hG fun hp => e9
 intro vs W hG hp b hb
 have q0 : vs 0 = _ := hp 0 kd
 clear hp
 simp only [fillS, Nat.reduceAdd, Nat.zero_add, q0] at hb
 subst hb
 refine wpList_nil ?_
 clear q0
 refine HK68.out _ _ ?_; clear HK68
 refine wp_cond_split rfl (fun hc => ?_) (fun hc => ?_)
 · apply wp_goto
   simp only [Exit.then, Exit.jump]
   refine ⟨trivial, ⟨loop_frame kr, gm, gf, nx l far l.length, rfl, rfl, ⟨hgm, hgf⟩, FI_step HFI.out, hG.1, hG.2.1, hG.2.2.1⟩, ?_⟩
   show unfV (.slice (some ⟨gf, 0, none⟩) l.length l.length) W < _
   rw [unfV_is hG.2.2.1]
   exact unf_nx hc
 have hdn := nx_done hc
 rw [hdn.1] at hG
 clear hc
 apply wp_skip
 simp only [Exit.then]
 refine HK67.out _ _ ?_; clear HK67
 refine wp_seq_h fun K69 HK69 => ?_
 refine wp_seq_h fun K70 HK70 => ?_
 refine wp_listed (R := fun W W' => Below W.heap.size W W') 6 [.val (.slice A l.length c), .val (.map (some gm)), .val (.slice (some ⟨gf, 0, none⟩) l.length l.length), .val (.slice (some adb) (l.length + 1) cb), .val (.bool true), .val (.bool (!true))] (fun W => Below w.heap.size w W ∧ mapIs W gm l.length (lab l l.length) ∧ W.heap[gf]? = some (.cells (boolA far l.length) 4 (0, 0)) ∧ Kd.R (Kd.int .i64) 3 W w.heap.size (fun _ => True) (.slice (some adb) (l.length + 1) cb) (begs l far (l.length + 1))) kr hG ?_ ?_
 · intro vs W hG b hb
   have e0 : b.eval (.tmp 0) = .slice A l.length c := eo_ hb
   have e5 : b.eval (.tmp 5) = .map (some gm) := eo_ hb
   have e7 : b.eval (.tmp 7) = .slice (some ⟨gf, 0, none⟩) l.length l.length := eo_ hb
   have e8 : b.eval (.tmp 8) = .slice (some adb) (l.length + 1) cb := eo_ hb
   refine ai ?_ (ai ?_ (ai ?_ (ai ?_ (ai ?_ (ai ?_ (trivial))))))
   · exact mI hG fun hp => e0
   · exact mI hG fun hp => e5
   · exact mI hG fun hp => e7
   · exact mI hG fun hp => e8
   · refine g0 fun hp K hK => ?_; have e64 : b.eval (.tmp 64) = _ := ev 64 hb 0 (hp 0 kr); have e65 : b.eval (.tmp 65) = _ := ev 65 hb 1 (hp 1 kr); have e66 : b.eval (.tmp 66) = _ := ev 66 hb 2 (hp 2 kr); have e67 : b.eval (.tmp 67) = _ := ev 67 hb 3 (hp 3 kr); refine st_call rfl (by first | (simp only [List.map_toArray, List.map_cons, List.map_nil, eval_const, e64, e65, e66, e67]; done) | (simp only [List.map_toArray, List.map_cons, List.map_nil, eval_const, e64, e65, e66, e67]; rfl)) kr ?_; refine (jumps_is A _ _ c l.length cb gm l far _ HL.out HI.out (Kd.C_below HC.out hG.1) (C_of_blk hG.2.2.1 HL.out) (C_begs hG.2.2.2) hG.2.1).mono ?_; rintro e w' ⟨rfl, hb'⟩; exact ⟨_, rfl, hK _ _ rfl ⟨below_step hG.1 hb', mapIs_below hG.2.1 hb', blk_below hG.2.2.1 hb', Kd.R_below hG.2.2.2 hb'⟩ hb'⟩
   · exact gv rfl hG fun hp K hK => st_un rfl (ev 68 hb 4 (hp 4 kr)) u_not hK
 intro vs W hG hp b hb
 have q5 : vs 5 = _ := hp 5 kd
 clear hp
 simp only [fillS, Nat.reduceAdd, Nat.zero_add, q5] at hb
 subst hb
 refine wpList_nil ?_
 clear q5
 refine HK70.out _ _ ?_; clear HK70
 apply wp_cond_false rfl
 apply wp_skip
 simp only [Exit.then]
 refine HK69.out _ _ ?_; clear HK69
 have HG := Lib.hid hG
 clear hG
 go_wp2
 have HG := HG.out
 first | go_ret3 | (simp only [Exit.jump]; go_ret3)
 exact ⟨far, adb, cb, gf, rfl, ⟨HCB.out, C_begs HG.2.2.2, C_of_blk HG.2.2.1 HL.out⟩, ⟨hdn.2, HFI.out⟩, HG.1⟩
end Go.Proofs.Ytihecimbhhlhaaa.Rl
