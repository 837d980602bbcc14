/- An item's instructions. -/
import Derived.Test.YtihecimbhhlhaaaAm1
import Derived.Test.YtihecimbhhlhaaaRsG5
import Derived.Test.YtihecimbhhlhaaaDr2
import Derived.Test.YtihecimbhhlhaaaRsMc
namespace Go.Proofs.Ytihecimbhhlhaaa.Rl
open Go.RowKit Dr PRs
open Go.Proofs.YtihecimbhhlhaaaW.PrintWords (Kd Kd.C Kd.R Kd.C_below Kd.C_get Kd.R_below Kd.R_reads Kd.R_reads' Kd.R_types Kd.R_step Kd.R_alloc Kd.R_drew Kd.R_lower add_field)
set_option linter.unusedVariables false
set_option linter.unusedSimpArgs false
set_option maxRecDepth 100000
/-- The branch turned. -/
def turnI (op : Int) : Int := (pTu.f 1 op).getD 0
theorem turn_some (op : Int) : pTu.f 1 op = some (turnI op) := by
 have h : ∃ r, pTu.f 1 op = some r := by
  simp only [pTu.f, pTu.j0]
  repeat' split
  all_goals exact ⟨_, rfl⟩
 obtain ⟨r, h⟩ := h
 unfold turnI
 rw [h]
 rfl
/-- An item's instructions. -/
def insL (l : List S34) (far : Nat → Bool) (i : Nat) : List S32 :=
 let x := l.getD i z34
 if x.f0 = 1 then [x.f1] else if x.f0 = 5 then Pure.setL x.f1.f1 x.f1.f4 else if x.f0 = 2 then [] else
 if far i = true then [⟨turnI x.f1.f0, x.f1.f1, x.f1.f2, x.f1.f3, 8⟩, ⟨44, 0, 0, 0, off l far i - 4⟩] else [⟨x.f1.f0, x.f1.f1, x.f1.f2, x.f1.f3, off l far i⟩]
abbrev in_ (y : S32) : Array Value := #[.int .i64 y.f0, .int .i64 y.f1, .int .i64 y.f2, .int .i64 y.f3, .int .i32 y.f4]
def row32 (l : List S32) (g : Nat) : DSpec (fun W W' => Below W.heap.size W W') := ⟨fun v W => ∃ A c, v = .slice A l.length c ∧ (∀ a, A = some a → g ≤ a.block) ∧ Kd.C k32 W A l.length l, fun _ _ _ ⟨A, c, h1, h0, h2⟩ hb => ⟨A, c, h1, h0, Kd.C_below h2 hb⟩⟩
theorem R_fresh {W : World} {base n c : Nat} {ok : Nat → Prop} {A : Option Addr} {xs : List S32} (h : Kd.R k32 32 W base ok (.slice A n c) xs) : ∀ a, A = some a → base ≤ a.block := by
 intro a ha
 subst ha
 exact ((Go.Proofs.YtihecimbhhlhaaaW.PrintWords.Kd.R_bound h).1 a.block (by simp [Value.ownBlock])).2.1
theorem bs1 (y : S32) (W : World) : (Instr.buildSlice 56 1 #[(0, .agg (in_ y))]).run Try.prog W = .ok (.slice (some ⟨W.heap.size, 0, none⟩) 1 1) (W.alloc (.cells (in_ y) 32)) := by kernel_rfl
theorem bs2 (y z : S32) (W : World) : (Instr.buildSlice 56 2 #[(0, .agg (in_ y)), (1, .agg (in_ z))]).run Try.prog W = .ok (.slice (some ⟨W.heap.size, 0, none⟩) 2 2) (W.alloc (.cells (in_ y ++ in_ z) 32)) := by kernel_rfl
theorem C_one {W : World} {g : Nat} {y : S32} (h : W.heap[g]? = some (.cells (in_ y) 32 (0, 0))) : Kd.C k32 W (some ⟨g, 0, none⟩) [y].length [y] := by
 refine ⟨rfl, by show 1 ≤ 9223372036854775807; decide, fun _ => ⟨_, rfl, fun j p hp => ?_⟩⟩
 have hj : j < 1 := (List.getElem?_eq_some_iff.1 hp).1
 refine ⟨(in_ p).toList, rfl, k32_mk W p, fun i u hu => ?_⟩
 have hi : i < 5 := (List.getElem?_eq_some_iff.1 hu).1
 have e : (Addr.add ⟨g, 0, none⟩ (j * 5 + i)) = ⟨g, j * 5 + i, none⟩ := by rw [Addr.add_mid, Nat.zero_add]
 rw [show k32.sz = 5 from rfl, e, blk_cell h]
 obtain rfl : j = 0 := by omega
 obtain rfl : y = p := Option.some.inj hp
 match i, hi with
 | 0, _ | 1, _ | 2, _ | 3, _ | 4, _ => exact hu
theorem C_two {W : World} {g : Nat} {y z : S32} (h : W.heap[g]? = some (.cells (in_ y ++ in_ z) 32 (0, 0))) : Kd.C k32 W (some ⟨g, 0, none⟩) [y, z].length [y, z] := by
 refine ⟨rfl, by show 2 ≤ 9223372036854775807; decide, fun _ => ⟨_, rfl, fun j p hp => ?_⟩⟩
 have hj : j < 2 := (List.getElem?_eq_some_iff.1 hp).1
 refine ⟨(in_ p).toList, rfl, k32_mk W p, fun i u hu => ?_⟩
 have hi : i < 5 := (List.getElem?_eq_some_iff.1 hu).1
 have e : (Addr.add ⟨g, 0, none⟩ (j * 5 + i)) = ⟨g, j * 5 + i, none⟩ := by rw [Addr.add_mid, Nat.zero_add]
 rw [show k32.sz = 5 from rfl, e, blk_cell h]
 match j, hj with
 | 0, _ =>
  obtain rfl : y = p := Option.some.inj hp
  match i, hi with
  | 0, _ | 1, _ | 2, _ | 3, _ | 4, _ => exact hu
 | 1, _ =>
  obtain rfl : z = p := Option.some.inj hp
  match i, hi with
  | 0, _ | 1, _ | 2, _ | 3, _ | 4, _ => exact hu
theorem flab_at {l : List S34} (far : Nat → Bool) {key : Int} (h : (lab l l.length key).isSome = true) : (flab l far l.length key).getD 0 = beg l far (at_ l key) := by
 unfold flab at_
 obtain ⟨j, hj⟩ := Option.isSome_iff_exists.1 h
 rw [hj]
 rfl
theorem off_in {l : List S34} (hl : l.length ≤ 4000) (far : Nat → Bool) {i : Nat} (hi : i < l.length) : -40000 ≤ off l far i ∧ off l far i ≤ 40000 := by
 have h1 := at_lt l (l.getD i z34).f2
 have h2 := beg_in l far (at_ l (l.getD i z34).f2)
 have h3 := beg_in l far i
 unfold off
 omega
set_option maxHeartbeats 16000000 in
theorem item_is (ad : Addr) (c : Nat) (l : List S34) (far : Nat → Bool) (adb : Addr) (cb gf gm gp i : Nat) (w : World) (hl : l.length ≤ 4000) (hil : i < l.length) (hI : ∀ x ∈ l, In64 x.f2) (hJ : ∀ x ∈ l, In32 x.f1.f4) (hL : LD l far (some ad) c adb cb gf gm gp w) (hk : (l.getD i z34).f0 = 1 ∨ (l.getD i z34).f0 = 5 ∨ (l.getD i z34).f0 = 2 ∨ ((l.getD i z34).f0 ≠ 1 ∧ (l.getD i z34).f0 ≠ 5 ∧ (l.getD i z34).f0 ≠ 2 ∧ (lab l l.length (l.getD i z34).f2).isSome = true)) :
 Calls Try.prog 25 #[.pointer (some ⟨gp, 0, none⟩), .int .i64 (i : Int)] w fun e w' => ∃ A c, e = .returned (.slice A (insL l far i).length c) ∧ (∀ a, A = some a → w.heap.size ≤ a.block) ∧ Kd.C k32 w' A (insL l far i).length (insL l far i) ∧ Below w.heap.size w w' := by
 have HL := Lib.hid hl
 have HI := Lib.hid hI
 have HJ := Lib.hid hJ
 have HD := Lib.hid hL
 have hx : l[i]? = some l[i] := List.getElem?_eq_getElem hil
 have hxm := List.getElem_mem hil
 generalize l[i] = x at hx hxm
 have hgx : l.getD i z34 = x := by simp [List.getD, hx]
 rw [hgx] at hk
 have HK := Lib.hid hk
 clear hl hI hJ hL hk
 have ho := off_in HL.out far hil
 have hbi := beg_in l far i
 have hins : insL l far i = insL l far i := rfl
 go_enter Try.func25, Try.ntmps25
 refine wp_seq_h fun K1 HK1 => ?_
 go_wp2
 refine HK1.out _ _ ?_; clear HK1
 refine wp_seq_h fun K2 HK2 => ?_
 refine wp_drawnD (R := RR w.heap.size (.cells (it z34) 34 (0, 0)) (.cells (it x) 34 (0, 0))) 17 [.val (.pointer (some ⟨gp, 0, none⟩)), .val (.pointer (some ⟨gp, 0, none⟩)), .val (.pointer (some ⟨gp, 0, none⟩)), .val (.slice (some ad) l.length c), .val (.int .i64 (i : Int)), .val (.pointer (some (ad.add (i * 7)))), .val (.agg (it x)), .val (.pointer (some ⟨gp, 0, none⟩)), .val (.pointer (some ⟨gp, 0, none⟩)), .val (.pointer (some ⟨gp, 1, none⟩)), .val (.slice (some adb) (l.length + 1) cb), .val (.int .i64 (i : Int)), .val (.pointer (some (adb.add i))), .val (.int .i64 (beg l far i)), newZX w.heap.size (.cells (it z34) 34 (0, 0)) (.cells (it x) 34 (0, 0)), fullX w.heap.size (.cells (it z34) 34 (0, 0)) (.cells (it x) 34 (0, 0)), .val (.int .i64 (beg l far i))] (fun d W => Below w.heap.size w W ∧ (d 14 = false → W.heap.size = w.heap.size)) rfl kr ⟨br.drew, fun _ => rfl⟩ ?_ ?_
 · intro vs W d hG b hb
   have e0 : b.eval (.tmp 0) = .pointer (some ⟨gp, 0, none⟩) := eo_ hb
   have e1 : b.eval (.tmp 1) = .int .i64 (i : Int) := eo_ hb
   have i5 := ei_ 5 hb 14
   have i8 := ei_ 8 hb 0
   have i9 := ei_ 9 hb 1
   have i10 := ei_ 10 hb 2
   have i11 := ei_ 11 hb 3
   have i12 := ei_ 12 hb 4
   have i13 := ei_ 13 hb 5
   have i14 := ei_ 14 hb 6
   have i15 := ei_ 15 hb 7
   have i16 := ei_ 16 hb 8
   have i17 := ei_ 17 hb 9
   have i18 := ei_ 18 hb 10
   have i19 := ei_ 19 hb 11
   have i20 := ei_ 20 hb 12
   have i21 := ei_ 21 hb 13
   clear hb
   refine And.intro ?_ (And.intro ?_ (And.intro ?_ (And.intro ?_ (And.intro ?_ (And.intro ?_ (And.intro ?_ (And.intro ?_ (And.intro ?_ (And.intro ?_ (And.intro ?_ (And.intro ?_ (And.intro ?_ (And.intro ?_ (And.intro ?_ (And.intro ?_ (And.intro ?_ (trivial)))))))))))))))))
   · exact g0D fun hd hp K hK => st_move (.inl rfl) (e0) (hK _ _ rfl ⟨hG.1, hG.2⟩ (RR_refl _ _ _ _))
   · exact g0D fun hd hp K hK => st_nilCheck rfl (i8.trans (hp 0 kr)) (hK _ _ rfl ⟨hG.1, hG.2⟩ (RR_refl _ _ _ _))
   · exact g0D fun hd hp K hK => st_field rfl (i9.trans (hp 1 kr)) kr (hK _ _ rfl ⟨hG.1, hG.2⟩ (RR_refl _ _ _ _))
   · exact g0D fun hd hp K hK => st_load rfl (i10.trans (hp 2 kr)) (ld_cell 23 kr ((blk_cell (blk_below HD.out.1 hG.1) 0).trans rfl)) (hK _ _ rfl ⟨hG.1, hG.2⟩ (RR_refl _ _ _ _))
   · exact g0D fun hd hp K hK => st_move (.inl rfl) (e1) (hK _ _ rfl ⟨hG.1, hG.2⟩ (RR_refl _ _ _ _))
   · exact g0D fun hd hp K hK => st_index rfl (i11.trans (hp 3 kr)) (i12.trans (hp 4 kr)) (ix23 hil _) (hK _ _ rfl ⟨hG.1, hG.2⟩ (RR_refl _ _ _ _))
   · exact g0D fun hd hp K hK => st_load rfl (i13.trans (hp 5 kr)) (by obtain ⟨a', ha', hl'⟩ := ld_it (Kd.C_below HD.out.2.1 hG.1) hx; rw [Option.some.inj ha']; exact hl') (hK _ _ rfl ⟨hG.1, hG.2⟩ (RR_refl _ _ _ _))
   · exact g0D fun hd hp K hK => st_move (.inl rfl) (e0) (hK _ _ rfl ⟨hG.1, hG.2⟩ (RR_refl _ _ _ _))
   · exact g0D fun hd hp K hK => st_nilCheck rfl (i15.trans (hp 7 kr)) (hK _ _ rfl ⟨hG.1, hG.2⟩ (RR_refl _ _ _ _))
   · exact g0D fun hd hp K hK => st_field rfl (i16.trans (hp 8 kr)) kr (hK _ _ rfl ⟨hG.1, hG.2⟩ (RR_refl _ _ _ _))
   · exact g0D fun hd hp K hK => st_load rfl (i17.trans (hp 9 kr)) (ld_cell 25 kr ((blk_cell (blk_below HD.out.1 hG.1) 1).trans rfl)) (hK _ _ rfl ⟨hG.1, hG.2⟩ (RR_refl _ _ _ _))
   · exact g0D fun hd hp K hK => st_move (.inl rfl) (e1) (hK _ _ rfl ⟨hG.1, hG.2⟩ (RR_refl _ _ _ _))
   · exact g0D fun hd hp K hK => st_index rfl (i18.trans (hp 10 kr)) (i19.trans (hp 11 kr)) (ix25n (Nat.lt_succ_of_lt hil) _) (hK _ _ rfl ⟨hG.1, hG.2⟩ (RR_refl _ _ _ _))
   · exact g0D fun hd hp K hK => st_load rfl (i20.trans (hp 12 kr)) (by obtain ⟨a', ha', hl'⟩ := ld_beg (Kd.C_below HD.out.2.2.1.1.2.1 hG.1) (Nat.lt_succ_of_lt hil); rw [Option.some.inj ha']; exact ld_cell 3 kr hl') (hK _ _ rfl ⟨hG.1, hG.2⟩ (RR_refl _ _ _ _))
   · refine g0D fun hd hp K hK => ?_; have hsz := hG.2 hd; exact st_alloc rfl (by have h := new34 W; rw [hsz] at h; exact h) (hK _ _ ⟨rfl, .inl (by have h := blk_new W (.cells (it z34) 34 (0, 0)); rw [hsz] at h; exact h)⟩ ⟨hG.1.alloc (Nat.le_of_eq hsz.symm) _, fun h => by simp [upD] at h⟩ (RR_new hsz))
   · refine g0D fun hd hp K hK => ?_; have q14 : (vs 14) = .pointer (some ⟨w.heap.size, 0, none⟩) ∧ (W.heap[w.heap.size]? = some (.cells (it z34) 34 (0, 0)) ∨ W.heap[w.heap.size]? = some (.cells (it x) 34 (0, 0))) := hp 14 kr; obtain ⟨hv, hz⟩ := q14; have e5 := i5.trans hv; have e14 : b.eval (.tmp 14) = _ := i14.trans (hp 6 kr); exact wp_store_mid 34 (.tmp 5) (.tmp 14) rfl w.heap.size 0 (it x) e5 e14 (by rcases hz with h | h <;> (have q := blk_there h; exact q)) kr kr (hK undef _ (RR_fill hz rfl).2 ⟨below_sets _ 0 w W _ hG.1 (Nat.le_refl _), fun h => by have := hG.2 h; rcases hz with q | q <;> (have := blk_lt q; omega)⟩ (RR_fill hz rfl).1)
   · exact g0D fun hd hp K hK => st_move (.inr rfl) (i21.trans (hp 13 kr)) (hK _ _ rfl ⟨hG.1, hG.2⟩ (RR_refl _ _ _ _))
 intro vs W d hG hp b hb
 have q13 : vs 13 = _ := hp 13 kd
 have q14 : (vs 14) = .pointer (some ⟨w.heap.size, 0, none⟩) ∧ (W.heap[w.heap.size]? = some (.cells (it z34) 34 (0, 0)) ∨ W.heap[w.heap.size]? = some (.cells (it x) 34 (0, 0))) := hp 14 kd
 have q15 : W.heap[w.heap.size]? = some (.cells (it x) 34 (0, 0)) := hp 15 kd
 have q16 : vs 16 = _ := hp 16 kd
 clear hp
 simp only [fillS, Nat.reduceAdd, Nat.zero_add, q13, q16] at hb
 subst hb
 refine wpList_nil ?_
 clear q13 q16
 obtain ⟨hv, -⟩ := q14
 rw [hv]
 clear hv
 have hG2 : Below w.heap.size w W ∧ W.heap[w.heap.size]? = some (.cells (it x) 34 (0, 0)) := ⟨hG.1, q15⟩
 clear hG q15
 refine HK2.out _ _ ?_; clear HK2
 have hG := hG2
 clear hG2
 obtain ⟨gx, hgx0⟩ : ∃ gx, gx = w.heap.size := ⟨_, rfl⟩
 have hg : w.heap.size ≤ gx := Nat.le_of_eq hgx0.symm
 replace hG : Below w.heap.size w W ∧ W.heap[gx]? = some (.cells (it x) 34 (0, 0)) := ⟨hG.1, by rw [hgx0]; exact hG.2⟩
 have hsl : (Value.pointer (some ⟨w.heap.size, 0, none⟩)) = .pointer (some ⟨gx, 0, none⟩) := by rw [hgx0]
 rw [hsl]
 clear hsl hgx0
 refine wp_seq_h fun K3 HK3 => ?_
 refine wp_seq_h fun K4 HK4 => ?_
 refine wp_listed (R := fun W W' => Below W.heap.size W W') 2 [.val (.pointer (some ⟨gx, 0, none⟩)), .val (.int .i64 x.f0)] (fun W => Below w.heap.size w W ∧ W.heap[gx]? = some (.cells (it x) 34 (0, 0))) kr hG ?_ ?_
 · intro vs W hG b hb
   have e5 : b.eval (.tmp 5) = .pointer (some ⟨gx, 0, none⟩) := eo_ hb
   refine ai ?_ (ai ?_ (trivial))
   · exact gv rfl hG fun hp K hK => st_field rfl (e5) kr hK
   · exact gv rfl hG fun hp K hK => st_load rfl (ev 22 hb 0 (hp 0 kr)) (ld_cell 3 kr ((blk_cell hG.2 0).trans rfl)) hK
 intro vs W hG hp b hb
 have q1 : vs 1 = _ := hp 1 kd
 clear hp
 simp only [fillS, Nat.reduceAdd, Nat.zero_add, q1] at hb
 subst hb
 refine wpList_nil ?_
 clear q1
 refine HK4.out _ _ ?_; clear HK4
 apply wp_block
 refine wp_seq_h fun K5 HK5 => ?_
 refine wp_listed (R := fun W W' => Below W.heap.size W W') 2 [.val (.bool (x.f0 == 1)), .val (.bool (x.f0 == 1))] (fun W => Below w.heap.size w W ∧ W.heap[gx]? = some (.cells (it x) 34 (0, 0))) kr hG ?_ ?_
 · intro vs W hG b hb
   have e23 : b.eval (.tmp 23) = .int .i64 x.f0 := eo_ hb
   refine ai ?_ (ai ?_ (trivial))
   · exact gv rfl hG fun hp K hK => st_bin rfl (e23) (eval_const _) b_eql hK
   · exact gv rfl hG fun hp K hK => st_move (.inr rfl) (ev 25 hb 0 (hp 0 kr)) hK
 intro vs W hG hp b hb
 have q1 : vs 1 = _ := hp 1 kd
 clear hp
 simp only [fillS, Nat.reduceAdd, Nat.zero_add, q1] at hb
 subst hb
 refine wpList_nil ?_
 clear q1
 refine HK5.out _ _ ?_; clear HK5
 refine wp_cond_split rfl (fun hk => ?_) (fun hk => ?_)
 · skip
   have hk1 : x.f0 = 1 := by simpa using hk
   clear hk
   have hL : insL l far i = [x.f1] := by unfold insL; rw [hgx]; simp only [hk1, ↓reduceIte]
   clear hk1
   refine wp_seq_h fun K6 HK6 => ?_
   refine wp_listed (R := fun W W' => Below W.heap.size W W') 4 [.val (.pointer (some ⟨gx, 1, none⟩)), .val (.agg (in_ x.f1)), row32 ([x.f1]) w.heap.size, row32 ([x.f1]) w.heap.size] (fun W => Below w.heap.size w W ∧ W.heap[gx]? = some (.cells (it x) 34 (0, 0))) kr hG ?_ ?_
   · intro vs W hG b hb
     have e5 : b.eval (.tmp 5) = .pointer (some ⟨gx, 0, none⟩) := eo_ hb
     refine ai ?_ (ai ?_ (ai ?_ (ai ?_ (trivial))))
     · exact gv rfl hG fun hp K hK => st_field rfl (e5) kr hK
     · exact gv rfl hG fun hp K hK => st_load rfl (ev 26 hb 0 (hp 0 kr)) (ld_mid (in_ x.f1).toList 32 _ hG.2 (fun j v hv => by have hj : j < 5 := (List.getElem?_eq_some_iff.1 hv).1; match j, hj with | 0, _ | 1, _ | 2, _ | 3, _ | 4, _ => exact hv) Try.underlying32 rfl kr) hK
     · refine g0 fun hp K hK => ?_; have e27 : b.eval (.tmp 27) = _ := ev 27 hb 1 (hp 1 kr); exact st_buildSlice rfl (by first | (simp only [List.map_toArray, List.map_cons, List.map_nil, eval_const, e27]; done) | (simp only [List.map_toArray, List.map_cons, List.map_nil, eval_const, e27]; rfl)) (bs1 x.f1 _) (hK _ _ ⟨_, _, rfl, fun a ha => (by cases ha; exact hG.1.size), C_one (blk_new _ _)⟩ ⟨hG.1.alloc hG.1.size _, blk_alloc hG.2 _⟩ (br.alloc (Nat.le_refl _) _))
     · refine g0 fun hp K hK => ?_; have q2 : ∃ A c, (vs 2) = .slice A ([x.f1]).length c ∧ (∀ a, A = some a → w.heap.size ≤ a.block) ∧ Kd.C k32 W A ([x.f1]).length ([x.f1]) := hp 2 kr; obtain ⟨A, c, hv, hA, hC⟩ := q2; have e28 := (ei_ 28 hb 2).trans hv; exact st_move (.inr rfl) (e28) (hK _ _ ⟨_, _, rfl, hA, hC⟩ hG br)
   intro vs W hG hp b hb
   have q0 : vs 0 = _ := hp 0 kd
   have q1 : vs 1 = _ := hp 1 kd
   have q2 : ∃ A c, (vs 2) = .slice A ([x.f1]).length c ∧ (∀ a, A = some a → w.heap.size ≤ a.block) ∧ Kd.C k32 W A ([x.f1]).length ([x.f1]) := hp 2 kd
   have q3 : ∃ A c, (vs 3) = .slice A ([x.f1]).length c ∧ (∀ a, A = some a → w.heap.size ≤ a.block) ∧ Kd.C k32 W A ([x.f1]).length ([x.f1]) := hp 3 kd
   clear hp
   simp only [fillS, Nat.reduceAdd, Nat.zero_add, q0, q1] at hb
   subst hb
   refine wpList_nil ?_
   clear q0 q1
   clear q2
   obtain ⟨Ar, cr, hv, hA, hC⟩ := q3
   rw [hv]
   clear hv
   refine HK6.out _ _ ?_; clear HK6
   have HG := Lib.hid hG.1
   have Hc := Lib.hid hC
   clear hG hC
   go_wp2
   first | go_ret | (rw [Exit.noGoto_ret]; go_ret)
   rw [hL]
   exact ⟨Ar, cr, rfl, hA, Hc.out, HG.out⟩
 have hk1 : x.f0 ≠ 1 := by simpa using hk
 clear hk
 refine wp_seq_h fun K7 HK7 => ?_
 refine wp_listed (R := fun W W' => Below W.heap.size W W') 2 [.val (.bool (x.f0 == 5)), .val (.bool (x.f0 == 5))] (fun W => Below w.heap.size w W ∧ W.heap[gx]? = some (.cells (it x) 34 (0, 0))) kr hG ?_ ?_
 · intro vs W hG b hb
   have e23 : b.eval (.tmp 23) = .int .i64 x.f0 := eo_ hb
   refine ai ?_ (ai ?_ (trivial))
   · exact gv rfl hG fun hp K hK => st_bin rfl (e23) (eval_const _) b_eql hK
   · exact gv rfl hG fun hp K hK => st_move (.inr rfl) (ev 30 hb 0 (hp 0 kr)) hK
 intro vs W hG hp b hb
 have q1 : vs 1 = _ := hp 1 kd
 clear hp
 simp only [fillS, Nat.reduceAdd, Nat.zero_add, q1] at hb
 subst hb
 refine wpList_nil ?_
 clear q1
 refine HK7.out _ _ ?_; clear HK7
 refine wp_cond_split rfl (fun hk => ?_) (fun hk => ?_)
 · skip
   have hk2 : x.f0 = 5 := by simpa using hk
   clear hk
   have hL : insL l far i = Pure.setL x.f1.f1 x.f1.f4 := by unfold insL; rw [hgx]; simp only [hk2, ↓reduceIte]; rfl
   clear hk2
   have hs := Pure.set_is x.f1.f1 x.f1.f4 (HJ.out _ hxm).1 (HJ.out _ hxm).2
   refine wp_seq_h fun K8 HK8 => ?_
   refine wp_listed (R := fun W W' => Below W.heap.size W W') 8 [.val (.pointer (some ⟨gx, 1, none⟩)), .val (.pointer (some ⟨gx, 2, none⟩)), .val (.int .i64 x.f1.f1), .val (.pointer (some ⟨gx, 1, none⟩)), .val (.pointer (some ⟨gx, 5, none⟩)), .val (.int .i32 x.f1.f4), row32 (Pure.setL x.f1.f1 x.f1.f4) w.heap.size, row32 (Pure.setL x.f1.f1 x.f1.f4) w.heap.size] (fun W => Below w.heap.size w W ∧ W.heap[gx]? = some (.cells (it x) 34 (0, 0))) kr hG ?_ ?_
   · intro vs W hG b hb
     have e5 : b.eval (.tmp 5) = .pointer (some ⟨gx, 0, none⟩) := eo_ hb
     refine ai ?_ (ai ?_ (ai ?_ (ai ?_ (ai ?_ (ai ?_ (ai ?_ (ai ?_ (trivial))))))))
     · exact gv rfl hG fun hp K hK => st_field rfl (e5) kr hK
     · exact gv rfl hG fun hp K hK => st_field rfl (ev 31 hb 0 (hp 0 kr)) kr hK
     · exact gv rfl hG fun hp K hK => st_load rfl (ev 32 hb 1 (hp 1 kr)) (ld_cell 3 kr ((blk_cell hG.2 2).trans rfl)) hK
     · exact gv rfl hG fun hp K hK => st_field rfl (e5) kr hK
     · exact gv rfl hG fun hp K hK => st_field rfl (ev 34 hb 3 (hp 3 kr)) kr hK
     · exact gv rfl hG fun hp K hK => st_load rfl (ev 35 hb 4 (hp 4 kr)) (ld_cell 21 kr ((blk_cell hG.2 5).trans rfl)) hK
     · refine g0 fun hp K hK => ?_; have e33 : b.eval (.tmp 33) = _ := ev 33 hb 2 (hp 2 kr); have e36 : b.eval (.tmp 36) = _ := ev 36 hb 5 (hp 5 kr); refine st_call rfl (by first | (simp only [List.map_toArray, List.map_cons, List.map_nil, eval_const, e33, e36]; done) | (simp only [List.map_toArray, List.map_cons, List.map_nil, eval_const, e33, e36]; rfl)) kr ?_; refine (pSet.calls _ x.f1.f1 x.f1.f4 (Pure.setL x.f1.f1 x.f1.f4) _ hs).mono ?_; rintro e w' ⟨v, rfl, hR, hb'⟩; obtain ⟨A, c, rfl, hc, hC⟩ := Kd.R_reads hR; have hA := fun a ha => Nat.le_trans hG.1.size (R_fresh hR a ha); exact ⟨_, rfl, hK _ _ ⟨_, _, rfl, hA, hC⟩ ⟨below_step hG.1 hb', blk_below hG.2 hb'⟩ hb'⟩
     · refine g0 fun hp K hK => ?_; have q6 : ∃ A c, (vs 6) = .slice A (Pure.setL x.f1.f1 x.f1.f4).length c ∧ (∀ a, A = some a → w.heap.size ≤ a.block) ∧ Kd.C k32 W A (Pure.setL x.f1.f1 x.f1.f4).length (Pure.setL x.f1.f1 x.f1.f4) := hp 6 kr; obtain ⟨A, c, hv, hA, hC⟩ := q6; have e37 := (ei_ 37 hb 6).trans hv; exact st_move (.inr rfl) (e37) (hK _ _ ⟨_, _, rfl, hA, hC⟩ hG br)
   intro vs W hG hp b hb
   have q0 : vs 0 = _ := hp 0 kd
   have q1 : vs 1 = _ := hp 1 kd
   have q2 : vs 2 = _ := hp 2 kd
   have q3 : vs 3 = _ := hp 3 kd
   have q4 : vs 4 = _ := hp 4 kd
   have q5 : vs 5 = _ := hp 5 kd
   have q6 : ∃ A c, (vs 6) = .slice A (Pure.setL x.f1.f1 x.f1.f4).length c ∧ (∀ a, A = some a → w.heap.size ≤ a.block) ∧ Kd.C k32 W A (Pure.setL x.f1.f1 x.f1.f4).length (Pure.setL x.f1.f1 x.f1.f4) := hp 6 kd
   have q7 : ∃ A c, (vs 7) = .slice A (Pure.setL x.f1.f1 x.f1.f4).length c ∧ (∀ a, A = some a → w.heap.size ≤ a.block) ∧ Kd.C k32 W A (Pure.setL x.f1.f1 x.f1.f4).length (Pure.setL x.f1.f1 x.f1.f4) := hp 7 kd
   clear hp
   simp only [fillS, Nat.reduceAdd, Nat.zero_add, q0, q1, q2, q3, q4, q5] at hb
   subst hb
   refine wpList_nil ?_
   clear q0 q1 q2 q3 q4 q5
   clear q6
   obtain ⟨Ar, cr, hv, hA, hC⟩ := q7
   rw [hv]
   clear hv
   refine HK8.out _ _ ?_; clear HK8
   have HG := Lib.hid hG.1
   have Hc := Lib.hid hC
   clear hG hC
   go_wp2
   first | go_ret | (rw [Exit.noGoto_ret]; go_ret)
   rw [hL]
   exact ⟨Ar, cr, rfl, hA, Hc.out, HG.out⟩
 have hk2 : x.f0 ≠ 5 := by simpa using hk
 clear hk
 refine wp_seq_h fun K9 HK9 => ?_
 refine wp_listed (R := fun W W' => Below W.heap.size W W') 2 [.val (.bool (x.f0 == 2)), .val (.bool (x.f0 == 2))] (fun W => Below w.heap.size w W ∧ W.heap[gx]? = some (.cells (it x) 34 (0, 0))) kr hG ?_ ?_
 · intro vs W hG b hb
   have e23 : b.eval (.tmp 23) = .int .i64 x.f0 := eo_ hb
   refine ai ?_ (ai ?_ (trivial))
   · exact gv rfl hG fun hp K hK => st_bin rfl (e23) (eval_const _) b_eql hK
   · exact gv rfl hG fun hp K hK => st_move (.inr rfl) (ev 39 hb 0 (hp 0 kr)) hK
 intro vs W hG hp b hb
 have q1 : vs 1 = _ := hp 1 kd
 clear hp
 simp only [fillS, Nat.reduceAdd, Nat.zero_add, q1] at hb
 subst hb
 refine wpList_nil ?_
 clear q1
 refine HK9.out _ _ ?_; clear HK9
 refine wp_cond_split rfl (fun hk => ?_) (fun hk => ?_)
 · skip
   have hk3 : x.f0 = 2 := by simpa using hk
   clear hk
   have hL : insL l far i = [] := by unfold insL; rw [hgx]; simp only [hk3]; rfl
   clear hk3
   have HG := Lib.hid hG.1
   clear hG
   go_wp2
   first | go_ret | (rw [Exit.noGoto_ret]; go_ret)
   rw [hL]
   exact ⟨none, 0, rfl, fun a ha => (nomatch ha), Go.Proofs.YtihecimbhhlhaaaW.PrintWords.Kd.C_nil _ _, HG.out⟩
 have hk3 : x.f0 ≠ 2 := by simpa using hk
 clear hk
 have hlb : (lab l l.length x.f2).isSome = true := by
  rcases HK.out with h | h | h | h
  · exact absurd h hk1
  · exact absurd h hk2
  · exact absurd h hk3
  · exact h.2.2.2
 have hfl := flab_at far hlb
 have hof : beg l far (at_ l x.f2) - beg l far i = off l far i := by unfold off; rw [hgx]
 apply wp_skip
 simp only [Exit.inBlock, Exit.then, ↓reduceIte]
 refine HK3.out _ _ ?_; clear HK3
 refine wp_seq_h fun K10 HK10 => ?_
 refine wp_seq_h fun K11 HK11 => ?_
 refine wp_listed (R := fun W W' => Below W.heap.size W W') 8 [.val (.pointer (some ⟨gp, 0, none⟩)), .val (.pointer (some ⟨gp, 0, none⟩)), .val (.pointer (some ⟨gp, 2, none⟩)), .val (.slice (some ⟨gf, 0, none⟩) l.length l.length), .val (.int .i64 (i : Int)), .val (.pointer (some ⟨gf, 0 + i, none⟩)), .val (.bool (far i)), .val (.bool (!(far i)))] (fun W => Below w.heap.size w W ∧ W.heap[gx]? = some (.cells (it x) 34 (0, 0))) kr hG ?_ ?_
 · intro vs W hG b hb
   have e0 : b.eval (.tmp 0) = .pointer (some ⟨gp, 0, none⟩) := eo_ hb
   have e1 : b.eval (.tmp 1) = .int .i64 (i : Int) := eo_ hb
   refine ai ?_ (ai ?_ (ai ?_ (ai ?_ (ai ?_ (ai ?_ (ai ?_ (ai ?_ (trivial))))))))
   · exact mI hG fun hp => e0
   · exact gv rfl hG fun hp K hK => st_nilCheck rfl (ev 40 hb 0 (hp 0 kr)) hK
   · exact gv rfl hG fun hp K hK => st_field rfl (ev 41 hb 1 (hp 1 kr)) kr hK
   · exact gv rfl hG fun hp K hK => st_load rfl (ev 42 hb 2 (hp 2 kr)) (ld_cell 26 kr ((blk_cell (blk_below HD.out.1 hG.1) 2).trans rfl)) hK
   · exact mI hG fun hp => e1
   · exact gv rfl hG fun hp K hK => st_index rfl (ev 43 hb 3 (hp 3 kr)) (ev 44 hb 4 (hp 4 kr)) (by have h := ix26 (ad := ⟨gf, 0, none⟩) (c := l.length) hil W; rwa [Addr.add_mid] at h) hK
   · exact gv rfl hG fun hp K hK => st_load rfl (ev 45 hb 5 (hp 5 kr)) (by obtain ⟨a', ha', hl'⟩ := ld_far (Kd.C_below HD.out.2.2.1.1.2.2 hG.1) hil; rw [← Option.some.inj ha', Addr.add_mid] at hl'; exact ld_cell 4 kr hl') hK
   · exact gv rfl hG fun hp K hK => st_un rfl (ev 46 hb 6 (hp 6 kr)) u_not hK
 intro vs W hG hp b hb
 have q7 : vs 7 = _ := hp 7 kd
 clear hp
 simp only [fillS, Nat.reduceAdd, Nat.zero_add, q7] at hb
 subst hb
 refine wpList_nil ?_
 clear q7
 refine HK11.out _ _ ?_; clear HK11
 refine wp_cond_split rfl (fun hk => ?_) (fun hk => ?_)
 · skip
   have hfi : far i = false := by simpa using hk
   clear hk
   have hL : insL l far i = [(⟨x.f1.f0, x.f1.f1, x.f1.f2, x.f1.f3, off l far i⟩ : S32)] := by unfold insL; rw [hgx]; simp only [if_neg hk1, if_neg hk2, if_neg hk3, hfi]; rfl
   refine wp_seq_h fun K12 HK12 => ?_
   refine wp_listed (R := fun W W' => Below W.heap.size W W') 9 [.val (.pointer (some ⟨gp, 0, none⟩)), .val (.pointer (some ⟨gx, 1, none⟩)), .val (.agg (in_ x.f1)), .val (.int .i64 (beg l far i)), .val (.pointer (some ⟨gx, 6, none⟩)), .val (.int .i64 x.f2), .val (.agg (in_ (⟨x.f1.f0, x.f1.f1, x.f1.f2, x.f1.f3, off l far i⟩ : S32))), row32 ([(⟨x.f1.f0, x.f1.f1, x.f1.f2, x.f1.f3, off l far i⟩ : S32)]) w.heap.size, row32 ([(⟨x.f1.f0, x.f1.f1, x.f1.f2, x.f1.f3, off l far i⟩ : S32)]) w.heap.size] (fun W => Below w.heap.size w W ∧ W.heap[gx]? = some (.cells (it x) 34 (0, 0))) kr hG ?_ ?_
   · intro vs W hG b hb
     have e0 : b.eval (.tmp 0) = .pointer (some ⟨gp, 0, none⟩) := eo_ hb
     have e5 : b.eval (.tmp 5) = .pointer (some ⟨gx, 0, none⟩) := eo_ hb
     have e6 : b.eval (.tmp 6) = .int .i64 (beg l far i) := eo_ hb
     refine ai ?_ (ai ?_ (ai ?_ (ai ?_ (ai ?_ (ai ?_ (ai ?_ (ai ?_ (ai ?_ (trivial)))))))))
     · exact mI hG fun hp => e0
     · exact gv rfl hG fun hp K hK => st_field rfl (e5) kr hK
     · exact gv rfl hG fun hp K hK => st_load rfl (ev 49 hb 1 (hp 1 kr)) (ld_mid (in_ x.f1).toList 32 _ hG.2 (fun j v hv => by have hj : j < 5 := (List.getElem?_eq_some_iff.1 hv).1; match j, hj with | 0, _ | 1, _ | 2, _ | 3, _ | 4, _ => exact hv) Try.underlying32 rfl kr) hK
     · exact mI hG fun hp => e6
     · exact gv rfl hG fun hp K hK => st_field rfl (e5) kr hK
     · exact gv rfl hG fun hp K hK => st_load rfl (ev 52 hb 4 (hp 4 kr)) (ld_cell 3 kr ((blk_cell hG.2 6).trans rfl)) hK
     · refine g0 fun hp K hK => ?_; have e48 : b.eval (.tmp 48) = _ := ev 48 hb 0 (hp 0 kr); have e50 : b.eval (.tmp 50) = _ := ev 50 hb 2 (hp 2 kr); have e51 : b.eval (.tmp 51) = _ := ev 51 hb 3 (hp 3 kr); have e53 : b.eval (.tmp 53) = _ := ev 53 hb 5 (hp 5 kr); refine st_call rfl (by first | (simp only [List.map_toArray, List.map_cons, List.map_nil, eval_const, e48, e50, e51, e53]; done) | (simp only [List.map_toArray, List.map_cons, List.map_nil, eval_const, e48, e50, e51, e53]; rfl)) kr ?_; refine (by_asm gp gm l.length (.slice (some ad) l.length c) (.slice (some adb) (l.length + 1) cb) (.slice (some ⟨gf, 0, none⟩) l.length l.length) (flab l far l.length) x.f1.f0 x.f1.f1 x.f1.f2 x.f1.f3 x.f1.f4 (beg l far i) x.f2 (off l far i) _ (blk_below HD.out.1 hG.1) (mapIs_below HD.out.2.2.2 hG.1) (HI.out _ hxm) (by rw [hfl]; exact hof) (by unfold In32; omega)).mono ?_; rintro e w' ⟨rfl, hb'⟩; exact ⟨_, rfl, hK _ _ rfl ⟨below_step hG.1 hb', blk_below hG.2 hb'⟩ hb'⟩
     · refine g0 fun hp K hK => ?_; have e54 : b.eval (.tmp 54) = _ := ev 54 hb 6 (hp 6 kr); exact st_buildSlice rfl (by first | (simp only [List.map_toArray, List.map_cons, List.map_nil, eval_const, e54]; done) | (simp only [List.map_toArray, List.map_cons, List.map_nil, eval_const, e54]; rfl)) (bs1 (⟨x.f1.f0, x.f1.f1, x.f1.f2, x.f1.f3, off l far i⟩ : S32) _) (hK _ _ ⟨_, _, rfl, fun a ha => (by cases ha; exact hG.1.size), C_one (blk_new _ _)⟩ ⟨hG.1.alloc hG.1.size _, blk_alloc hG.2 _⟩ (br.alloc (Nat.le_refl _) _))
     · refine g0 fun hp K hK => ?_; have q7 : ∃ A c, (vs 7) = .slice A ([(⟨x.f1.f0, x.f1.f1, x.f1.f2, x.f1.f3, off l far i⟩ : S32)]).length c ∧ (∀ a, A = some a → w.heap.size ≤ a.block) ∧ Kd.C k32 W A ([(⟨x.f1.f0, x.f1.f1, x.f1.f2, x.f1.f3, off l far i⟩ : S32)]).length ([(⟨x.f1.f0, x.f1.f1, x.f1.f2, x.f1.f3, off l far i⟩ : S32)]) := hp 7 kr; obtain ⟨A, c, hv, hA, hC⟩ := q7; have e55 := (ei_ 55 hb 7).trans hv; exact st_move (.inr rfl) (e55) (hK _ _ ⟨_, _, rfl, hA, hC⟩ hG br)
   intro vs W hG hp b hb
   have q0 : vs 0 = _ := hp 0 kd
   have q1 : vs 1 = _ := hp 1 kd
   have q2 : vs 2 = _ := hp 2 kd
   have q3 : vs 3 = _ := hp 3 kd
   have q4 : vs 4 = _ := hp 4 kd
   have q5 : vs 5 = _ := hp 5 kd
   have q6 : vs 6 = _ := hp 6 kd
   have q7 : ∃ A c, (vs 7) = .slice A ([(⟨x.f1.f0, x.f1.f1, x.f1.f2, x.f1.f3, off l far i⟩ : S32)]).length c ∧ (∀ a, A = some a → w.heap.size ≤ a.block) ∧ Kd.C k32 W A ([(⟨x.f1.f0, x.f1.f1, x.f1.f2, x.f1.f3, off l far i⟩ : S32)]).length ([(⟨x.f1.f0, x.f1.f1, x.f1.f2, x.f1.f3, off l far i⟩ : S32)]) := hp 7 kd
   have q8 : ∃ A c, (vs 8) = .slice A ([(⟨x.f1.f0, x.f1.f1, x.f1.f2, x.f1.f3, off l far i⟩ : S32)]).length c ∧ (∀ a, A = some a → w.heap.size ≤ a.block) ∧ Kd.C k32 W A ([(⟨x.f1.f0, x.f1.f1, x.f1.f2, x.f1.f3, off l far i⟩ : S32)]).length ([(⟨x.f1.f0, x.f1.f1, x.f1.f2, x.f1.f3, off l far i⟩ : S32)]) := hp 8 kd
   clear hp
   simp only [fillS, Nat.reduceAdd, Nat.zero_add, q0, q1, q2, q3, q4, q5, q6] at hb
   subst hb
   refine wpList_nil ?_
   clear q0 q1 q2 q3 q4 q5 q6
   clear q7
   obtain ⟨Ar, cr, hv, hA, hC⟩ := q8
   rw [hv]
   clear hv
   refine HK12.out _ _ ?_; clear HK12
   have HG := Lib.hid hG.1
   have Hc := Lib.hid hC
   clear hG hC
   go_wp2
   first | go_ret | (rw [Exit.noGoto_ret]; go_ret)
   rw [hL]
   exact ⟨Ar, cr, rfl, hA, Hc.out, HG.out⟩
 have hfi : far i = true := by simpa using hk
 clear hk
 have hL : insL l far i = [(⟨turnI x.f1.f0, x.f1.f1, x.f1.f2, x.f1.f3, 8⟩ : S32), (⟨44, 0, 0, 0, off l far i - 4⟩ : S32)] := by unfold insL; rw [hgx]; simp only [if_neg hk1, if_neg hk2, if_neg hk3, hfi, ↓reduceIte]
 apply wp_skip
 simp only [Exit.then]
 refine HK10.out _ _ ?_; clear HK10
 refine wp_seq_h fun K13 HK13 => ?_
 refine wp_listed (R := fun W W' => Below W.heap.size W W') 3 [.val (.pointer (some ⟨gx, 1, none⟩)), .val (.agg (in_ x.f1)), newSpec (.cells #[.int .i64 0, .int .i64 0, .int .i64 0, .int .i64 0, .int .i32 0] 32 (0, 0)) (gx + 1)] (fun W => Below w.heap.size w W ∧ W.heap[gx]? = some (.cells (it x) 34 (0, 0))) kr hG ?_ ?_
 · intro vs W hG b hb
   have e5 : b.eval (.tmp 5) = .pointer (some ⟨gx, 0, none⟩) := eo_ hb
   refine ai ?_ (ai ?_ (ai ?_ (trivial)))
   · exact gv rfl hG fun hp K hK => st_field rfl (e5) kr hK
   · exact gv rfl hG fun hp K hK => st_load rfl (ev 56 hb 0 (hp 0 kr)) (ld_mid (in_ x.f1).toList 32 _ hG.2 (fun j v hv => by have hj : j < 5 := (List.getElem?_eq_some_iff.1 hv).1; match j, hj with | 0, _ | 1, _ | 2, _ | 3, _ | 4, _ => exact hv) Try.underlying32 rfl kr) hK
   · exact g0 fun hp K hK => st_alloc rfl (new32 _) (hK _ _ ⟨_, rfl, blk_new _ _, blk_lt hG.2⟩ ⟨hG.1.alloc hG.1.size _, blk_alloc hG.2 _⟩ (br.alloc (Nat.le_refl _) _))
 intro vs W hG hp b hb
 have q0 : vs 0 = _ := hp 0 kd
 have q1 : vs 1 = _ := hp 1 kd
 have q2 : ∃ gg, (vs 2) = .pointer (some ⟨gg, 0, none⟩) ∧ W.heap[gg]? = some (.cells #[.int .i64 0, .int .i64 0, .int .i64 0, .int .i64 0, .int .i32 0] 32 (0, 0)) ∧ gx + 1 ≤ gg := hp 2 kd
 clear hp
 simp only [fillS, Nat.reduceAdd, Nat.zero_add, q0, q1] at hb
 subst hb
 simp only [List.append_eq, List.cons_append, List.nil_append, List.drop_succ_cons, List.drop_zero]
 clear q0 q1
 obtain ⟨gy, hv, Ay, hgy⟩ := q2
 rw [hv]
 clear hv
 refine wpList_store_mid rfl 32 (.tmp 7) (.tmp 57) rfl gy 0 (in_ x.f1) rfl rfl (by have h := blk_there Ay; exact h) kr kr ?_
 refine wpList_nil ?_
 simp only [Act.put]
 have hgw : w.heap.size ≤ gx := hg
 have hG2 : (Below w.heap.size w (W.setCells gy 0 (in_ x.f1).toList) ∧ (W.setCells gy 0 (in_ x.f1).toList).heap[gx]? = some (.cells (it x) 34 (0, 0))) ∧ (W.setCells gy 0 (in_ x.f1).toList).heap[gy]? = some (.cells (in_ x.f1) 32 (0, 0)) := ⟨⟨below_sets _ 0 w W gy hG.1 (by omega), blk_puts_far hG.2 (by omega)⟩, blk_puts (cs' := in_ x.f1) Ay rfl⟩
 clear Ay hG
 generalize W.setCells gy 0 (in_ x.f1).toList = V at hG2 ⊢
 clear W
 refine HK13.out _ _ ?_; clear HK13
 refine wp_seq_h fun K14 HK14 => ?_
 refine wp_listed (R := fun W W' => Below W.heap.size W W') 5 [.val (.pointer (some ⟨gx, 1, none⟩)), .val (.pointer (some ⟨gx, 1, none⟩)), .val (.int .i64 x.f1.f0), .val (.int .i64 (turnI x.f1.f0)), .val (.pointer (some ⟨gy, 0, none⟩))] (fun W => (Below w.heap.size w W ∧ W.heap[gx]? = some (.cells (it x) 34 (0, 0))) ∧ W.heap[gy]? = some (.cells #[.int .i64 x.f1.f0, .int .i64 x.f1.f1, .int .i64 x.f1.f2, .int .i64 x.f1.f3, .int .i32 x.f1.f4] 32 (0, 0))) kr hG2 ?_ ?_
 · intro vs W hG b hb
   have e5 : b.eval (.tmp 5) = .pointer (some ⟨gx, 0, none⟩) := eo_ hb
   have e7 : b.eval (.tmp 7) = .pointer (some ⟨gy, 0, none⟩) := eo_ hb
   refine ai ?_ (ai ?_ (ai ?_ (ai ?_ (ai ?_ (trivial)))))
   · exact gv rfl hG fun hp K hK => st_field rfl (e5) kr hK
   · exact gv rfl hG fun hp K hK => st_field rfl (ev 58 hb 0 (hp 0 kr)) kr hK
   · exact gv rfl hG fun hp K hK => st_load rfl (ev 59 hb 1 (hp 1 kr)) (ld_cell 3 kr ((blk_cell hG.1.2 1).trans rfl)) hK
   · refine g0 fun hp K hK => ?_; have e60 : b.eval (.tmp 60) = _ := ev 60 hb 2 (hp 2 kr); refine st_call rfl (by first | (simp only [List.map_toArray, List.map_cons, List.map_nil, eval_const, e60]; done) | (simp only [List.map_toArray, List.map_cons, List.map_nil, eval_const, e60]; rfl)) kr ?_; refine (pTu.calls 1 x.f1.f0 (turnI x.f1.f0) _ (turn_some _)).mono ?_; rintro e w' ⟨rfl, hd⟩; have hb' := below_drawn hd; exact ⟨_, rfl, hK _ _ rfl ⟨⟨below_step hG.1.1 hb', blk_below hG.1.2 hb'⟩, blk_below hG.2 hb'⟩ hb'⟩
   · exact gv rfl hG fun hp K hK => st_field rfl (e7) kr hK
 intro vs W hG hp b hb
 have q0 : vs 0 = _ := hp 0 kd
 have q1 : vs 1 = _ := hp 1 kd
 have q2 : vs 2 = _ := hp 2 kd
 have q3 : vs 3 = _ := hp 3 kd
 have q4 : vs 4 = _ := hp 4 kd
 clear hp
 simp only [fillS, Nat.reduceAdd, Nat.zero_add, q0, q1, q2, q3, q4] at hb
 subst hb
 simp only [List.append_eq, List.cons_append, List.nil_append, List.drop_succ_cons, List.drop_zero]
 clear q0 q1 q2 q3 q4
 clear hG2
 have z : W.cell? ⟨gy, 0, none⟩ = some (.int .i64 x.f1.f0) := (blk_cell hG.2 0).trans rfl
 have y := blk_frozen hG.2 0
 have z4 : (W.setCell ⟨gy, 0, none⟩ (.int .i64 (turnI x.f1.f0))).cell? ⟨gy, 4, none⟩ = some (.int .i32 x.f1.f4) := (blk_cell (blk_put hG.2 0 (.int .i64 (turnI x.f1.f0)) rfl) 4).trans rfl
 have y4 := blk_frozen (blk_put hG.2 0 (.int .i64 (turnI x.f1.f0)) rfl) 4
 have HG := Lib.hid hG
 clear hG
 go_wp2
 have hG : (Below w.heap.size w ((W.setCell ⟨gy, 0, none⟩ (.int .i64 (turnI x.f1.f0))).setCell ⟨gy, 4, none⟩ (.int .i32 8)) ∧ ((W.setCell ⟨gy, 0, none⟩ (.int .i64 (turnI x.f1.f0))).setCell ⟨gy, 4, none⟩ (.int .i32 8)).heap[gx]? = some (.cells (it x) 34 (0, 0))) ∧ ((W.setCell ⟨gy, 0, none⟩ (.int .i64 (turnI x.f1.f0))).setCell ⟨gy, 4, none⟩ (.int .i32 8)).heap[gy]? = some (.cells #[.int .i64 (turnI x.f1.f0), .int .i64 x.f1.f1, .int .i64 x.f1.f2, .int .i64 x.f1.f3, .int .i32 8] 32 (0, 0)) := ⟨⟨below_set (below_set HG.out.1.1 (by omega)) (by omega), blk_far (blk_far HG.out.1.2 (by show gx ≠ gy; omega) _) (by show gx ≠ gy; omega) _⟩, blk_put (blk_put HG.out.2 0 _ rfl) 4 _ rfl⟩
 clear HG z y z4 y4
 generalize (W.setCell ⟨gy, 0, none⟩ (.int .i64 (turnI x.f1.f0))).setCell ⟨gy, 4, none⟩ (.int .i32 8) = V at hG ⊢
 clear W
 refine HK14.out _ _ ?_; clear HK14
 refine wp_seq_h fun K15 HK15 => ?_
 refine wp_drawn (R := fun W W' => Below W.heap.size W W') 10 [.val (.agg (in_ (⟨turnI x.f1.f0, x.f1.f1, x.f1.f2, x.f1.f3, 8⟩ : S32))), .val (.pointer (some ⟨gp, 0, none⟩)), .val (.agg #[.int .i64 44, .int .i64 0, .int .i64 0, .int .i64 0, .int .i32 0]), .val (.int .i64 (beg l far i)), .val (.int .i64 (beg l far i + 4)), .val (.pointer (some ⟨gx, 6, none⟩)), .val (.int .i64 x.f2), .val (.agg (in_ (⟨44, 0, 0, 0, off l far i - 4⟩ : S32))), row32 ([(⟨turnI x.f1.f0, x.f1.f1, x.f1.f2, x.f1.f3, 8⟩ : S32), (⟨44, 0, 0, 0, off l far i - 4⟩ : S32)]) w.heap.size, row32 ([(⟨turnI x.f1.f0, x.f1.f1, x.f1.f2, x.f1.f3, 8⟩ : S32), (⟨44, 0, 0, 0, off l far i - 4⟩ : S32)]) w.heap.size] (fun W => (Below w.heap.size w W ∧ W.heap[gx]? = some (.cells (it x) 34 (0, 0))) ∧ W.heap[gy]? = some (.cells #[.int .i64 (turnI x.f1.f0), .int .i64 x.f1.f1, .int .i64 x.f1.f2, .int .i64 x.f1.f3, .int .i32 8] 32 (0, 0))) rfl kr ⟨⟨hG.1.1.drew, hG.1.2⟩, hG.2⟩ ?_ ?_
 · intro vs W hG b hb
   have e0 : b.eval (.tmp 0) = .pointer (some ⟨gp, 0, none⟩) := eo_ hb
   have e5 : b.eval (.tmp 5) = .pointer (some ⟨gx, 0, none⟩) := eo_ hb
   have e6 : b.eval (.tmp 6) = .int .i64 (beg l far i) := eo_ hb
   have e7 : b.eval (.tmp 7) = .pointer (some ⟨gy, 0, none⟩) := eo_ hb
   refine ai ?_ (ai ?_ (ai ?_ (ai ?_ (ai ?_ (ai ?_ (ai ?_ (ai ?_ (ai ?_ (ai ?_ (trivial))))))))))
   · exact gv rfl hG fun hp K hK => st_load rfl (e7) (ld_all 32 _ hG.2 Try.underlying32 rfl kr) hK
   · exact mI hG fun hp => e0
   · exact gv rfl hG fun hp K hK => st_build rfl (m_27) kr hK
   · exact mI hG fun hp => e6
   · exact gv rfl hG fun hp K hK => st_bin rfl (ev 67 hb 3 (hp 3 kr)) (eval_const _) (b_add (IntWalk.i64_in _ (m_55))) hK
   · exact gv rfl hG fun hp K hK => st_field rfl (e5) kr hK
   · exact gv rfl hG fun hp K hK => st_load rfl (ev 69 hb 5 (hp 5 kr)) (ld_cell 3 kr ((blk_cell hG.1.2 6).trans rfl)) hK
   · refine g0 fun hp K hK => ?_; have e65 : b.eval (.tmp 65) = _ := ev 65 hb 1 (hp 1 kr); have e66 : b.eval (.tmp 66) = _ := ev 66 hb 2 (hp 2 kr); have e68 : b.eval (.tmp 68) = _ := ev 68 hb 4 (hp 4 kr); have e70 : b.eval (.tmp 70) = _ := ev 70 hb 6 (hp 6 kr); refine st_call rfl (by first | (simp only [List.map_toArray, List.map_cons, List.map_nil, eval_const, e65, e66, e68, e70]; done) | (simp only [List.map_toArray, List.map_cons, List.map_nil, eval_const, e65, e66, e68, e70]; rfl)) kr ?_; refine (by_asm gp gm l.length (.slice (some ad) l.length c) (.slice (some adb) (l.length + 1) cb) (.slice (some ⟨gf, 0, none⟩) l.length l.length) (flab l far l.length) 44 0 0 0 0 (beg l far i + 4) x.f2 (off l far i - 4) _ (blk_below HD.out.1 hG.1.1) (mapIs_below HD.out.2.2.2 hG.1.1) (HI.out _ hxm) (by rw [hfl]; omega) (by unfold In32; omega)).mono ?_; rintro e w' ⟨rfl, hb'⟩; exact ⟨_, rfl, hK _ _ rfl ⟨⟨below_step hG.1.1 hb', blk_below hG.1.2 hb'⟩, blk_below hG.2 hb'⟩ hb'⟩
   · refine g0 fun hp K hK => ?_; have e64 : b.eval (.tmp 64) = _ := ev 64 hb 0 (hp 0 kr); have e71 : b.eval (.tmp 71) = _ := ev 71 hb 7 (hp 7 kr); exact st_buildSlice rfl (by first | (simp only [List.map_toArray, List.map_cons, List.map_nil, eval_const, e64, e71]; done) | (simp only [List.map_toArray, List.map_cons, List.map_nil, eval_const, e64, e71]; rfl)) (bs2 (⟨turnI x.f1.f0, x.f1.f1, x.f1.f2, x.f1.f3, 8⟩ : S32) (⟨44, 0, 0, 0, off l far i - 4⟩ : S32) _) (hK _ _ ⟨_, _, rfl, fun a ha => (by cases ha; exact hG.1.1.size), C_two (blk_new _ _)⟩ ⟨⟨hG.1.1.alloc hG.1.1.size _, blk_alloc hG.1.2 _⟩, blk_alloc hG.2 _⟩ (br.alloc (Nat.le_refl _) _))
   · refine g0 fun hp K hK => ?_; have q8 : ∃ A c, (vs 8) = .slice A ([(⟨turnI x.f1.f0, x.f1.f1, x.f1.f2, x.f1.f3, 8⟩ : S32), (⟨44, 0, 0, 0, off l far i - 4⟩ : S32)]).length c ∧ (∀ a, A = some a → w.heap.size ≤ a.block) ∧ Kd.C k32 W A ([(⟨turnI x.f1.f0, x.f1.f1, x.f1.f2, x.f1.f3, 8⟩ : S32), (⟨44, 0, 0, 0, off l far i - 4⟩ : S32)]).length ([(⟨turnI x.f1.f0, x.f1.f1, x.f1.f2, x.f1.f3, 8⟩ : S32), (⟨44, 0, 0, 0, off l far i - 4⟩ : S32)]) := hp 8 kr; obtain ⟨A, c, hv, hA, hC⟩ := q8; have e72 := (ei_ 72 hb 8).trans hv; exact st_move (.inr rfl) (e72) (hK _ _ ⟨_, _, rfl, hA, hC⟩ hG br)
 intro vs W hG hp b hb
 have q0 : vs 0 = _ := hp 0 kd
 have q1 : vs 1 = _ := hp 1 kd
 have q2 : vs 2 = _ := hp 2 kd
 have q3 : vs 3 = _ := hp 3 kd
 have q4 : vs 4 = _ := hp 4 kd
 have q5 : vs 5 = _ := hp 5 kd
 have q6 : vs 6 = _ := hp 6 kd
 have q7 : vs 7 = _ := hp 7 kd
 have q8 : ∃ A c, (vs 8) = .slice A ([(⟨turnI x.f1.f0, x.f1.f1, x.f1.f2, x.f1.f3, 8⟩ : S32), (⟨44, 0, 0, 0, off l far i - 4⟩ : S32)]).length c ∧ (∀ a, A = some a → w.heap.size ≤ a.block) ∧ Kd.C k32 W A ([(⟨turnI x.f1.f0, x.f1.f1, x.f1.f2, x.f1.f3, 8⟩ : S32), (⟨44, 0, 0, 0, off l far i - 4⟩ : S32)]).length ([(⟨turnI x.f1.f0, x.f1.f1, x.f1.f2, x.f1.f3, 8⟩ : S32), (⟨44, 0, 0, 0, off l far i - 4⟩ : S32)]) := hp 8 kd
 have q9 : ∃ A c, (vs 9) = .slice A ([(⟨turnI x.f1.f0, x.f1.f1, x.f1.f2, x.f1.f3, 8⟩ : S32), (⟨44, 0, 0, 0, off l far i - 4⟩ : S32)]).length c ∧ (∀ a, A = some a → w.heap.size ≤ a.block) ∧ Kd.C k32 W A ([(⟨turnI x.f1.f0, x.f1.f1, x.f1.f2, x.f1.f3, 8⟩ : S32), (⟨44, 0, 0, 0, off l far i - 4⟩ : S32)]).length ([(⟨turnI x.f1.f0, x.f1.f1, x.f1.f2, x.f1.f3, 8⟩ : S32), (⟨44, 0, 0, 0, off l far i - 4⟩ : S32)]) := hp 9 kd
 clear hp
 simp only [fillS, Nat.reduceAdd, Nat.zero_add, q0, q1, q2, q3, q4, q5, q6, q7] at hb
 subst hb
 refine wpList_nil ?_
 clear q0 q1 q2 q3 q4 q5 q6 q7
 clear q8
 obtain ⟨Ar, cr, hv, hA, hC⟩ := q9
 rw [hv]
 clear hv
 refine HK15.out _ _ ?_; clear HK15
 have HG := Lib.hid hG.1.1
 have Hc := Lib.hid hC
 clear hG hC
 go_wp2
 first | go_ret | (rw [Exit.noGoto_ret]; go_ret)
 rw [hL]
 exact ⟨Ar, cr, rfl, hA, Hc.out, HG.out⟩
end Go.Proofs.Ytihecimbhhlhaaa.Rl
