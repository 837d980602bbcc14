/- Where items begin. -/
import Derived.Test.YtihecimbhhlhaaaRl4
import Derived.Test.YtihecimbhhlhaaaRlG1
import Derived.Test.YtihecimbhhlhaaaRsG6
import Derived.Test.YtihecimbhhlhaaaRsMc
namespace Go.Proofs.Ytihecimbhhlhaaa.Rl
open Go.RowKit Dr PRs
open Go.Proofs.YtihecimbhhlhaaaW.PrintWords (Kd Kd.C Kd.R Kd.C_below Kd.C_get Kd.R_below Kd.R_reads Kd.R_reads' Kd.R_types Kd.R_step Kd.R_alloc Kd.R_drew Kd.R_lower add_field)
set_option linter.unusedVariables false
set_option linter.unusedSimpArgs false
set_option maxRecDepth 100000
/-- How many bytes an item has. -/
def sz (x : S34) (f : Bool) : Int := if x.f0 = 2 then 0 else if x.f0 = 5 then 4 * ((Pure.setL x.f1.f1 x.f1.f4).length : Int) else if f = true then 8 else 4
theorem sz_in (x : S34) (f : Bool) : 0 ≤ sz x f ∧ sz x f ≤ 8 := by
 have := Pure.setL_length x.f1.f1 x.f1.f4
 unfold sz
 repeat' split
 all_goals omega
def In32 (n : Int) : Prop := -2147483648 ≤ n ∧ n ≤ 2147483647
theorem size_some (x : S34) (f : Bool) (h : In32 x.f1.f4) : rsiz.f 5 x.f0 x.f1.f0 x.f1.f1 x.f1.f2 x.f1.f3 x.f1.f4 x.f2 f = some (sz x f) := by
 have hl := Pure.setL_length x.f1.f1 x.f1.f4
 unfold rsiz.f sz
 rw [Pure.set_is _ _ h.1 h.2]
 simp only [Option.bind_some]
 have hw : wrap64 (4 * ((Pure.setL x.f1.f1 x.f1.f4).length : Int)) = 4 * ((Pure.setL x.f1.f1 x.f1.f4).length : Int) := by unfold wrap64; omega
 rw [hw]
 repeat' split
 all_goals rfl
/-- Where item i begins, if these are far. -/
def beg (l : List S34) (far : Nat → Bool) : Nat → Int
 | 0 => 0
 | i + 1 => beg l far i + sz (l.getD i z34) (far i)
theorem beg_in (l : List S34) (far : Nat → Bool) : ∀ i : Nat, 0 ≤ beg l far i ∧ beg l far i ≤ 8 * i
 | 0 => by simp [beg]
 | i + 1 => by
  have h := beg_in l far i
  have h2 := sz_in (l.getD i z34) (far i)
  simp only [beg]
  omega
def begs (l : List S34) (far : Nat → Bool) (n : Nat) : List Int := (List.range n).map (beg l far)
theorem begs_len (l : List S34) (far : Nat → Bool) (n : Nat) : (begs l far n).length = n := by simp [begs]
theorem begs_succ (l : List S34) (far : Nat → Bool) (n : Nat) : begs l far n ++ [beg l far n] = begs l far (n + 1) := by
 unfold begs
 rw [List.range_succ, List.map_append]
 rfl
def farL (far : Nat → Bool) (n : Nat) : List Bool := (List.range n).map far
theorem farL_len (far : Nat → Bool) (n : Nat) : (farL far n).length = n := by simp [farL]
theorem ld_far {W : World} {A : Option Addr} {far : Nat → Bool} {n i : Nat} (h : Kd.C Kd.bool W A n (farL far n)) (hi : i < n) : ∃ ad, A = some ad ∧ W.cell? (ad.add i) = some (.bool (far i)) := by
 obtain ⟨ad, c, e, _, hK, hc⟩ := Kd.C_get h false (i : Int) (by omega) (by omega)
 rw [Int.toNat_natCast] at hK hc
 have hx : (farL far n).getD i false = far i := by simp [farL, List.getD, hi]
 rw [hx] at hK
 obtain rfl : c = [.bool (far i)] := hK
 refine ⟨ad, e, ?_⟩
 have := hc 0 _ rfl
 simpa [Kd.bool, Kd.scalar] using this
theorem row_sets3 {W : World} {g k t e : Nat} {α : Type} {d : Kd α} (hE : d.E = []) {v : Value} {l : List α} {cs : Array Value} {vs : List Value} (h : Kd.R d e W g (fun _ => True) v l) (hk : W.heap[k]? = some (.cells cs t (0, 0))) (hne : e ≠ t) : Kd.R d e (W.setCells k 0 vs) g (fun _ => True) v l := by
 have ht : ∀ q, q ∈ e :: d.E → q ≠ t := by
  intro q hq
  rw [hE] at hq
  have := List.mem_singleton.1 hq
  omega
 have h2 : Kd.R d e (W.setCells k 0 vs) g (fun j => True ∧ j ≠ k) v l := Kd.R_step (Kd.R_types h hk ht) (fun j hj hlt => (blk_puts_far (Array.getElem?_eq_getElem hlt) hj.2).trans (Array.getElem?_eq_getElem hlt).symm)
 exact Go.Proofs.YtihecimbhhlhaaaW.PrintWords.Kd.R_mono h2 (fun _ _ => trivial)
/-- make([]int, 0, n). -/
theorem mk25 (W : World) (base n : Nat) (hn : n ≤ 300000) (hb : base ≤ W.heap.size) : ∃ W', (Instr.makeSlice 25 (.int .i64 0) (.int .i64 (n : Int))).run Try.prog W = .ok (.slice (some ⟨W.heap.size, 0, none⟩) 0 n) W' ∧ Kd.R (Kd.int .i64) 3 W' base (fun _ => True) (.slice (some ⟨W.heap.size, 0, none⟩) 0 n) [] ∧ Below W.heap.size W W' := by
 obtain ⟨i0, hi, hz⟩ := Option.map_eq_some_iff.1 info3
 simp only [Prod.mk.injEq] at hz
 obtain ⟨W', hr, ho, hg⟩ := run_makeSlice_owned (P := Try.prog) (w := W) base 25 3 i0 (.int .i64 0) 1 Try.underlying25 hi hz.1 hz.2.1 .i64 .i64 n (by omega) (by rw [hz.2.2]; omega) (by unfold maxLen; omega) hb
 refine ⟨W', hr, ⟨fun _ _ => trivial, [], ho, ?_⟩, br.grown hg (Nat.le_refl _) (fun j hj => by cases hj)⟩
 exact Go.Proofs.YtihecimbhhlhaaaW.PrintWords.Reps.none _ _
theorem st_makeSlice {P : Program} {o : Oper} {b : Act} {W W' : World} {Q : Exit → Act → World → Prop} {K : Act → World → Prop} {t : TypeId} {x y : Operand} {X Y v : Value} (ho : o.op = .makeSlice t x y) (hx : b.eval x = X) (hy : b.eval y = Y) (h : (Instr.makeSlice t X Y).run P W = .ok v W') (hK : K (b.put o.dst v) W') : Oper.wp P o b W K Q := by
 refine st_run ?_ hK
 unfold execOp
 rw [ho]
 simp only [hx, hy]
 exact run_v h
/-- A row of numbers of the call's own. -/
def intsSpec (l : List Int) (g0 : Nat) : DSpec (fun W W' => Below W.heap.size W W') := ⟨fun v W => Kd.R (Kd.int .i64) 3 W g0 (fun _ => True) v l, fun _ _ _ h hb => Kd.R_below h hb⟩
set_option maxHeartbeats 8000000 in
theorem places_is (A Af : Option Addr) (c cf : Nat) (l : List S34) (far : Nat → Bool) (w : World) (hl : l.length ≤ 262144) (hI : ∀ x ∈ l, In32 x.f1.f4) (hC : Kd.C k34 w A l.length l) (hF : Kd.C Kd.bool w Af l.length (farL far l.length)) :
 Calls Try.prog 18 #[.slice A l.length c, .slice Af l.length cf] w fun e w' => ∃ v, e = .returned v ∧ Kd.R (Kd.int .i64) 3 w' w.heap.size (fun _ => True) v (begs l far (l.length + 1)) ∧ Below w.heap.size w w' := by
 have HL := Lib.hid hl
 have HI := Lib.hid hI
 have HC := Lib.hid hC
 have HF := Lib.hid hF
 clear hl hI hC hF
 go_enter Try.func18, Try.ntmps18
 refine wp_seq_h fun K1 HK1 => ?_
 refine wp_listed (R := fun W W' => Below W.heap.size W W') 1 [.val (Value.slice none 0 0)] (fun W => Below w.heap.size w W) kr br ?_ ?_
 · intro vs W hG b hb
   refine ai ?_ (trivial)
   · exact gv rfl hG fun hp K hK => st_move (.inr rfl) (eval_const _) hK
 intro vs W hG hp b hb
 have q0 : vs 0 = _ := hp 0 kd
 clear hp
 simp only [fillS, Nat.reduceAdd, Nat.zero_add, q0] at hb
 subst hb
 refine wpList_nil ?_
 clear q0
 refine HK1.out _ _ ?_; clear HK1
 refine wp_seq_h fun K2 HK2 => ?_
 refine wp_listed (R := fun W W' => Below W.heap.size W W') 6 [.val (.slice A l.length c), .val (.int .i64 (l.length : Int)), .val (.int .i64 ((l.length + 1 : Nat) : Int)), intsSpec ([]) w.heap.size, intsSpec ([]) w.heap.size, .val (.int .i64 0)] (fun W => Below w.heap.size w W) kr hG ?_ ?_
 · intro vs W hG b hb
   have e0 : b.eval (.tmp 0) = .slice A l.length c := eo_ hb
   refine ai ?_ (ai ?_ (ai ?_ (ai ?_ (ai ?_ (ai ?_ (trivial))))))
   · exact mI hG fun hp => e0
   · refine g0 fun hp K hK => ?_; have e9 : b.eval (.tmp 9) = _ := ev 9 hb 0 (hp 0 kr); exact st_builtin rfl (m_65) (fun cs => b_len 23 (by decide) cs _) (hK _ _ rfl hG br)
   · exact gv rfl hG fun hp K hK => st_bin rfl (ev 10 hb 1 (hp 1 kr)) (eval_const _) (b_add (IntWalk.i64_in _ (m_55))) hK
   · refine g0 fun hp K hK => ?_; have e11 : b.eval (.tmp 11) = _ := ev 11 hb 2 (hp 2 kr); obtain ⟨W1, hr0, hR0, hb0⟩ := mk25 W w.heap.size (l.length + 1) (m_55) hG.size; exact st_makeSlice rfl (eval_const _) (e11) hr0 (hK _ _ hR0 (below_step hG hb0) hb0)
   · refine g0 fun hp K hK => ?_; have q3 : Kd.R (Kd.int .i64) 3 W w.heap.size (fun _ => True) (vs 3) ([]) := hp 3 kr; skip; have e12 := (ei_ 12 hb 3); exact st_move (.inr rfl) (e12) (hK _ _ q3 hG br)
   · exact gv rfl hG fun hp K hK => st_move (.inr rfl) (eval_const _) hK
 intro vs W hG hp b hb
 have q0 : vs 0 = _ := hp 0 kd
 have q1 : vs 1 = _ := hp 1 kd
 have q2 : vs 2 = _ := hp 2 kd
 have q3 : Kd.R (Kd.int .i64) 3 W w.heap.size (fun _ => True) (vs 3) ([]) := hp 3 kd
 have q4 : Kd.R (Kd.int .i64) 3 W w.heap.size (fun _ => True) (vs 4) ([]) := hp 4 kd
 have q5 : vs 5 = _ := hp 5 kd
 clear hp
 simp only [fillS, Nat.reduceAdd, Nat.zero_add, q0, q1, q2, q5] at hb
 subst hb
 refine wpList_nil ?_
 clear q0 q1 q2 q5
 clear q3
 replace hG : Below w.heap.size w W ∧ Kd.R (Kd.int .i64) 3 W w.heap.size (fun _ => True) (vs 4) [] := ⟨hG, q4⟩
 clear q4
 generalize vs 4 = u0 at hG ⊢
 refine HK2.out _ _ ?_; clear HK2
 refine wp_seq_h fun K3 HK3 => ?_
 refine wp_seq_h fun K4 HK4 => ?_
 refine wp_listed (R := fun W W' => Below W.heap.size W W') 3 [.val (.slice A l.length c), .val (.int .i64 (l.length : Int)), .val (.int .i64 0)] (fun W => Below w.heap.size w W ∧ Kd.R (Kd.int .i64) 3 W w.heap.size (fun _ => True) u0 []) kr hG ?_ ?_
 · intro vs W hG b hb
   have e0 : b.eval (.tmp 0) = .slice A l.length c := eo_ hb
   refine ai ?_ (ai ?_ (ai ?_ (trivial)))
   · exact mI hG fun hp => e0
   · refine g0 fun hp K hK => ?_; have e13 : b.eval (.tmp 13) = _ := ev 13 hb 0 (hp 0 kr); exact st_builtin rfl (m_63) (fun cs => b_len 23 (by decide) cs _) (hK _ _ rfl hG br)
   · exact mI hG fun hp => eval_const _
 intro vs W hG hp b hb
 have q0 : vs 0 = _ := hp 0 kd
 have q1 : vs 1 = _ := hp 1 kd
 have q2 : vs 2 = _ := hp 2 kd
 clear hp
 simp only [fillS, Nat.reduceAdd, Nat.zero_add, q0, q1, q2] at hb
 subst hb
 refine wpList_nil ?_
 clear q0 q1 q2
 refine HK4.out _ _ ?_; clear HK4
 apply wp_block
 refine wp_loopS [5, 6, 7, 8, 15, 16, 17, 18, 19, 20, 21, 22, 23, 24, 25, 26, 27, 28, 29, 30, 31, 32] (fun sl W => ∃ i : Nat, sl 15 = .int .i64 (i : Int) ∧ (i ≤ l.length ∧ sl 6 = .int .i64 (beg l far i)) ∧ Below w.heap.size w W ∧ ∃ u, sl 5 = u ∧ Kd.R (Kd.int .i64) 3 W w.heap.size (fun _ => True) u (begs l far i)) (fun sl W => Msr (l.length : Int) (sl 15)) ⟨0, rfl, ⟨Nat.zero_le _, rfl⟩, hG.1, _, rfl, hG.2⟩ ?_
 clear hG
 intro vs W b hb hI
 obtain ⟨i, hsl, ⟨hi, h6⟩, hG, u, h5, hR⟩ := hI
 replace hG := And.intro hG hR
 clear hR
 simp only [setSlots, Act.put, List.setIfInBounds_toArray, List.set_cons_succ, List.set_cons_zero] at hb
 subst hb
 replace hsl : vs 15 = .int .i64 (i : Int) := hsl
 replace h6 : vs 6 = .int .i64 (beg l far i) := h6
 replace h5 : vs 5 = u := h5
 rw [hsl, h6, h5]
 clear hsl h6 h5
 refine wp_seq_h fun K5 HK5 => ?_
 refine wp_listed (R := fun W W' => Below W.heap.size W W') 1 [.val (.bool (decide ((i : Int) < (l.length : Int))))] (fun W => Below w.heap.size w W ∧ Kd.R (Kd.int .i64) 3 W w.heap.size (fun _ => True) u (begs l far i)) kr hG ?_ ?_
 · intro vs W hG b hb
   have e14 : b.eval (.tmp 14) = .int .i64 (l.length : Int) := eo_ hb
   have e15 : b.eval (.tmp 15) = .int .i64 (i : Int) := eo_ hb
   refine ai ?_ (trivial)
   · exact gv rfl hG fun hp K hK => st_bin rfl (e15) (e14) b_lss hK
 intro vs W hG hp b hb
 have q0 : vs 0 = _ := hp 0 kd
 clear hp
 simp only [fillS, Nat.reduceAdd, Nat.zero_add, q0] at hb
 subst hb
 refine wpList_nil ?_
 clear q0
 refine HK5.out _ _ ?_; clear HK5
 refine wp_seq_h fun K6 HK6 => ?_
 refine wp_cond_split rfl (fun hlt => ?_) (fun hlt => ?_)
 · have hil : i < l.length := by have := of_decide_eq_true hlt; omega
   clear hlt
   apply wp_skip
   simp only [Exit.then]
   refine HK6.out _ _ ?_; clear HK6
   have hx : l[i]? = some l[i] := List.getElem?_eq_getElem hil
   have hxm := List.getElem_mem hil
   generalize l[i] = x at hx hxm
   have hgx : l.getD i z34 = x := by simp [List.getD, hx]
   obtain ⟨ad, hAd, -⟩ := ld_it (Kd.C_below HC.out hG.1) hx
   subst hAd
   refine wp_seq_h fun K7 HK7 => ?_
   apply wp_block
   refine wp_seq_h fun K8 HK8 => ?_
   refine wp_listed (R := fun W W' => Below W.heap.size W W') 5 [.val (.int .i64 (i : Int)), .val (.pointer (some (ad.add (i * 7)))), .val (.agg (it x)), newSpec (.cells (it z34) 34 (0, 0)) (w.heap.size), .val (.int .i64 (i : Int))] (fun W => Below w.heap.size w W ∧ Kd.R (Kd.int .i64) 3 W w.heap.size (fun _ => True) u (begs l far i)) kr hG ?_ ?_
   · intro vs W hG b hb
     have e13 : b.eval (.tmp 13) = .slice (some ad) l.length c := eo_ hb
     have e15 : b.eval (.tmp 15) = .int .i64 (i : Int) := eo_ hb
     refine ai ?_ (ai ?_ (ai ?_ (ai ?_ (ai ?_ (trivial)))))
     · exact mI hG fun hp => e15
     · exact gv rfl hG fun hp K hK => st_index rfl (e13) (e15) (ix23 hil _) hK
     · exact gv rfl hG fun hp K hK => st_load rfl (ev 18 hb 1 (hp 1 kr)) (m_43) hK
     · exact g0 fun hp K hK => st_alloc rfl (new34 _) (hK _ _ ⟨_, rfl, blk_new _ _, hG.1.size⟩ ⟨hG.1.alloc hG.1.size _, Kd.R_alloc hG.2 _⟩ (br.alloc (Nat.le_refl _) _))
     · exact gv rfl hG fun hp K hK => st_move (.inr rfl) (ev 17 hb 0 (hp 0 kr)) hK
   intro vs W hG hp b hb
   have q0 : vs 0 = _ := hp 0 kd
   have q1 : vs 1 = _ := hp 1 kd
   have q2 : vs 2 = _ := hp 2 kd
   have q3 : ∃ gg, (vs 3) = .pointer (some ⟨gg, 0, none⟩) ∧ W.heap[gg]? = some (.cells (it z34) 34 (0, 0)) ∧ w.heap.size ≤ gg := hp 3 kd
   have q4 : vs 4 = _ := hp 4 kd
   clear hp
   simp only [fillS, Nat.reduceAdd, Nat.zero_add, q0, q1, q2, q4] at hb
   subst hb
   simp only [List.append_eq, List.cons_append, List.nil_append, List.drop_succ_cons, List.drop_zero]
   clear q0 q1 q2 q4
   obtain ⟨gx, hv, Ax, hg⟩ := q3
   rw [hv]
   clear hv
   refine wpList_store_mid rfl 34 (.tmp 8) (.tmp 19) rfl gx 0 (it x) rfl rfl (by have h := blk_there Ax; exact h) kr kr ?_
   refine wpList_nil ?_
   simp only [Act.put]
   have hG2 : (Below w.heap.size w (W.setCells gx 0 (it x).toList) ∧ Kd.R (Kd.int .i64) 3 (W.setCells gx 0 (it x).toList) w.heap.size (fun _ => True) u (begs l far i)) ∧ (W.setCells gx 0 (it x).toList).heap[gx]? = some (.cells (it x) 34 (0, 0)) := ⟨⟨below_sets _ 0 w W gx hG.1 hg, row_sets3 rfl hG.2 Ax (by decide)⟩, blk_puts (cs' := it x) Ax rfl⟩
   clear Ax hG
   generalize W.setCells gx 0 (it x).toList = V at hG2 ⊢
   clear W
   refine HK8.out _ _ ?_; clear HK8
   refine wp_seq_h fun K9 HK9 => ?_
   have hAx := hG2.2
   have HB := Lib.hid hG2.1.1
   have HR := Lib.hid hG2.1.2
   have Hil := Lib.hid hil
   have HX := Lib.hid hAx
   clear hG2 hil hAx hi
   go_wp2_with (first | ((with_reducible refine Go.Proofs.YtihecimbhhlhaaaW.PrintWords.gate_builtin (b := .append) (xs := #[.tmp 20, .tmp 22]) rfl ?_); at_builtin; refine Go.Proofs.YtihecimbhhlhaaaW.PrintWords.Kd.R_append (Kd.int .i64) (w0 := w) w.heap.size rfl (.tmp 20) (.tmp 22) 25 3 (.int .i64 0) 8 rfl Try.underlying25 info3 rfl (by decide) (by omega) u (begs l far i) (beg l far i) [.int .i64 (beg l far i)] (fun _ => True) (fun _ => False) rfl rfl rfl (fun _ hk => hk.elim) (fun _ _ => trivial) HR.out HB.out (Below.size HB.out) (by rw [begs_len]; have := HL.out; have := Hil.out; omega) ?_; intro v1 w1 ho hb hg hat) | go_in)
   have hne : some gx ≠ u.ownBlock := Go.Proofs.YtihecimbhhlhaaaW.PrintWords.Kd.R_ne HR.out HX.out (by decide)
   rw [begs_succ] at ho
   have hG : (Below w.heap.size w w1 ∧ Kd.R (Kd.int .i64) 3 w1 w.heap.size (fun _ => True) v1 (begs l far (i + 1))) ∧ w1.heap[gx]? = some (.cells (it x) 34 (0, 0)) := ⟨⟨hb, ho⟩, (hg.block gx (blk_lt HX.out) hne).trans HX.out⟩
   clear ho hb hg hat HR HB HX hne
   have hil := Hil.out
   refine HK9.out _ _ ?_; clear HK9
   skip
   obtain ⟨adf, hAf, -⟩ := ld_far (Kd.C_below HF.out hG.1.1) hil
   subst hAf
   have hbeg : IntKind.i64.wrap (beg l far i + sz x (far i)) = beg l far (i + 1) := by
    have h1 := beg_in l far (i + 1)
    have e : beg l far (i + 1) = beg l far i + sz x (far i) := by rw [← hgx]; rfl
    rw [← e]
    exact IntWalk.i64_in _ (m_55)
   refine wp_drawn (R := fun W W' => Below W.heap.size W W') 8 [.val (.int .i64 (beg l far i)), .val (.agg (it x)), .val (.slice (some adf) l.length cf), .val (.int .i64 (i : Int)), .val (.pointer (some (adf.add i))), .val (.bool (far i)), .val (.int .i64 (sz x (far i))), .val (.int .i64 (beg l far (i + 1)))] (fun W => (Below w.heap.size w W ∧ Kd.R (Kd.int .i64) 3 W w.heap.size (fun _ => True) v1 (begs l far (i + 1))) ∧ W.heap[gx]? = some (.cells (it x) 34 (0, 0))) rfl kr ⟨⟨hG.1.1.drew, Kd.R_drew hG.1.2⟩, hG.2⟩ ?_ ?_
   · intro vs W hG b hb
     have e1 : b.eval (.tmp 1) = .slice (some adf) l.length cf := eo_ hb
     have e6 : b.eval (.tmp 6) = .int .i64 (beg l far i) := eo_ hb
     have e7 : b.eval (.tmp 7) = .int .i64 (i : Int) := eo_ hb
     have e8 : b.eval (.tmp 8) = .pointer (some ⟨gx, 0, none⟩) := eo_ hb
     refine ai ?_ (ai ?_ (ai ?_ (ai ?_ (ai ?_ (ai ?_ (ai ?_ (ai ?_ (trivial))))))))
     · exact mI hG fun hp => e6
     · exact gv rfl hG fun hp K hK => st_load rfl (e8) (ld_all 34 _ hG.2 Try.underlying34 rfl kr) hK
     · exact mI hG fun hp => e1
     · exact mI hG fun hp => e7
     · exact gv rfl hG fun hp K hK => st_index rfl (ev 26 hb 2 (hp 2 kr)) (ev 27 hb 3 (hp 3 kr)) (ix26 hil _) hK
     · exact gv rfl hG fun hp K hK => st_load rfl (ev 28 hb 4 (hp 4 kr)) (by obtain ⟨a', ha', hl'⟩ := ld_far (Kd.C_below HF.out hG.1.1) hil; rw [Option.some.inj ha']; exact ld_cell 4 kr hl') hK
     · refine g0 fun hp K hK => ?_; have e25 : b.eval (.tmp 25) = _ := ev 25 hb 1 (hp 1 kr); have e29 : b.eval (.tmp 29) = _ := ev 29 hb 5 (hp 5 kr); refine st_call rfl (by first | (simp only [List.map_toArray, List.map_cons, List.map_nil, eval_const, e25, e29]; done) | (simp only [List.map_toArray, List.map_cons, List.map_nil, eval_const, e25, e29]; rfl)) kr ?_; refine (rsiz.calls 5 _ _ _ _ _ _ _ _ _ _ (size_some x (far i) (HI.out _ hxm))).mono ?_; rintro e w' ⟨rfl, hb'⟩; exact ⟨_, rfl, hK _ _ rfl ⟨⟨below_step hG.1.1 hb', Kd.R_below hG.1.2 hb'⟩, blk_below hG.2 hb'⟩ hb'⟩
     · exact gv rfl hG fun hp K hK => st_bin rfl (ev 24 hb 0 (hp 0 kr)) (ev 30 hb 6 (hp 6 kr)) (b_add hbeg) hK
   intro vs W hG hp b hb
   have q7 : vs 7 = _ := hp 7 kd
   clear hp
   simp only [fillS, Nat.reduceAdd, Nat.zero_add, q7] at hb
   subst hb
   simp only [List.append_eq, List.cons_append, List.nil_append, List.drop_succ_cons, List.drop_zero]
   clear q7
   have HG := Lib.hid hG
   clear hG
   go_wp2
   have hG := HG.out
   clear HG
   refine HK7.out _ _ ?_; clear HK7
   have hinc : IntKind.i64.wrap ((i : Int) + 1) = (i : Int) + 1 := IntWalk.i64_in _ (m_55)
   have HG := Lib.hid hG.1
   clear hG hil hbeg
   go_wp2
   exact ⟨loop_frame kr, ⟨i + 1, m_56, ⟨Hil.out, rfl⟩, HG.out.1, v1, rfl, HG.out.2⟩, Msr.lt (by have := Hil.out; omega)⟩
 have hle : i = l.length := by have := of_decide_eq_false hlt; omega
 clear hlt
 apply wp_exit
 simp only [Exit.inBlock, Exit.then, ↓reduceIte]
 subst hle
 clear hi
 refine HK3.out _ _ ?_; clear HK3
 refine wp_seq_h fun K10 HK10 => ?_
 have HB := Lib.hid hG.1
 have HR := Lib.hid hG.2
 clear hG
 go_wp2_with (first | ((with_reducible refine Go.Proofs.YtihecimbhhlhaaaW.PrintWords.gate_builtin (b := .append) (xs := #[.tmp 33, .tmp 35]) rfl ?_); at_builtin; refine Go.Proofs.YtihecimbhhlhaaaW.PrintWords.Kd.R_append (Kd.int .i64) (w0 := w) w.heap.size rfl (.tmp 33) (.tmp 35) 25 3 (.int .i64 0) 8 rfl Try.underlying25 info3 rfl (by decide) (by omega) u (begs l far l.length) (beg l far l.length) [.int .i64 (beg l far l.length)] (fun _ => True) (fun _ => False) rfl rfl rfl (fun _ hk => hk.elim) (fun _ _ => trivial) HR.out HB.out (Below.size HB.out) (by rw [begs_len]; have := HL.out; omega) ?_; intro v1 w1 ho hb hg hat) | go_in)
 rw [begs_succ] at ho
 have HO := Lib.hid ho
 have HB2 := Lib.hid hb
 clear ho hb hg hat
 refine HK10.out _ _ ?_; clear HK10
 go_wp2
 go_ret
 exact ⟨v1, rfl, HO.out, HB2.out⟩
end Go.Proofs.Ytihecimbhhlhaaa.Rl
