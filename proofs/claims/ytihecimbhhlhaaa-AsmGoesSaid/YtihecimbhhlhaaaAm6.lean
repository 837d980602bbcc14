/- The law AsmGoes. -/
import Derived.Test.YtihecimbhhlhaaaAm4
import Derived.Test.YtihecimbhhlhaaaAm5
namespace Go.Proofs.Ytihecimbhhlhaaa.Rl
open Go.RowKit Dr PRs
open Go.Proofs.YtihecimbhhlhaaaW.PrintWords (Kd Kd.C Kd.R Kd.C_below Kd.C_get Kd.R_below Kd.R_reads Kd.R_reads' Kd.R_types Kd.R_step Kd.R_alloc Kd.R_drew Kd.R_lower add_field)
set_option linter.unusedVariables false
set_option linter.unusedSimpArgs false
set_option maxRecDepth 100000
open Go.Proofs.Ytihecimbhhlhaaa.Pure (okI wdI)
theorem yielded_undef {ops : Array Oper} {oj : Oper} {b : Act} {j : Nat} {d : Tmp} (ho : ops[j]? = some oj) (hd : oj.dst = some d) (he : b.eval (.tmp d) = undef) : yielded ops b.tmps j = none := by
 unfold yielded
 rw [ho]
 simp only [Option.bind_some, hd]
 have e : b.tmps.getD d undef = undef := he
 by_cases h : d < b.tmps.size
 · have e' : b.tmps[d]? = some undef := by
    rw [← e]
    simp [h]
   rw [e']
   rfl
 · rw [Array.getElem?_eq_none (Nat.le_of_not_lt h)]
theorem g_never {P : Program} {Q : Exit → Act → World → Prop} {ops : Array Oper} {o : Oper} {b : Act} {W : World} {K : Act → World → Prop} {j : Nat} {want : Bool} (hg : o.guard = some (j, want)) (hy : yielded ops b.tmps j = none) (h0 : K (b.put o.dst undef) W) : if Region.wanted o (yielded ops b.tmps) = true then Oper.wp P o b W K Q else K (b.put o.dst undef) W := by
 have e : Region.wanted o (yielded ops b.tmps) = false := by
  simp only [Region.wanted, hg, hy]
  cases want <;> rfl
 rw [e]
 exact h0
theorem cvi32 (n : Int) (W : World) : (convert 21 42 (.int .i32 n)).run Try.prog W = .ok (.int .u32 (n % 4294967296)) W := by
 have e : (convert 21 42 (.int .i32 n)).run Try.prog W = .ok (.int .u32 (IntKind.u32.wrap n)) W := by kernel_rfl
 rw [e, IntKind.wrap_u32]
theorem fa34l (a : Addr) (W : World) : (Instr.fieldAt 34 (.pointer (some a)) 1).run Try.prog W = .ok (.pointer (some (a.add 1))) W := by kernel_rfl
theorem fa32k (a : Addr) (W : World) : (Instr.fieldAt 32 (.pointer (some a)) 0).run Try.prog W = .ok (.pointer (some (a.add 0))) W := by kernel_rfl
theorem fa32m (a : Addr) (W : World) : (Instr.fieldAt 32 (.pointer (some a)) 2).run Try.prog W = .ok (.pointer (some (a.add 2))) W := by kernel_rfl
theorem wl_at {l : List S34} {far : Nat → Bool} {i t q : Nat} (hq : (wl l far i).length = q) {y : S32} (hy : (insL l far i)[t]? = some y) : ∀ n, i < n → (wl l far n)[q + t]? = some (ew y)
 | 0, h => absurd h (by omega)
 | n + 1, h => by
  have ht : t < (insL l far i).length := (List.getElem?_eq_some_iff.1 hy).1
  have hm : ((insL l far i).map ew)[t]? = some (ew y) := by rw [List.getElem?_map, hy]; rfl
  simp only [wl]
  by_cases e : i = n
  · subst e
    rw [List.getElem?_append_right (by omega), show q + t - (wl l far i).length = t by omega]
    exact hm
  · have ih := wl_at hq hy n (by omega)
    rw [List.getElem?_append_left (List.getElem?_eq_some_iff.1 ih).1]
    exact ih
theorem goes_at {l : List S34} {far : Nat → Bool} (ho : okL l) (hl : l.length ≤ 4000) (hJ : ∀ x ∈ l, In32 x.f1.f4) (hg : good l far) (hF : FI l far) {i : Nat} (hi : i < l.length) (hk : (l.getD i z34).f0 = 3 ∨ (l.getD i z34).f0 = 4) {ws : List Int} (hw : wl l far l.length = ws) :
 ∃ q : Nat, beg l far i = 4 * (q : Int) ∧ (far i = false → q < ws.length ∧ (36 ≤ (l.getD i z34).f1.f0 ∧ (l.getD i z34).f1.f0 ≤ 44) ∧ okI (l.getD i z34).f1.f0 (l.getD i z34).f1.f1 (l.getD i z34).f1.f2 (l.getD i z34).f1.f3 (off l far i) = true ∧ ws[q]? = some (wdI (l.getD i z34).f1.f0 (l.getD i z34).f1.f1 (l.getD i z34).f1.f2 (l.getD i z34).f1.f3 (off l far i))) ∧
  (far i = true → q + 1 < ws.length ∧ (36 ≤ turnI (l.getD i z34).f1.f0 ∧ turnI (l.getD i z34).f1.f0 ≤ 41 ∧ turnI (l.getD i z34).f1.f0 ≠ (l.getD i z34).f1.f0) ∧ (okI (turnI (l.getD i z34).f1.f0) (l.getD i z34).f1.f1 (l.getD i z34).f1.f2 (l.getD i z34).f1.f3 8 = true ∧ ws[q]? = some (wdI (turnI (l.getD i z34).f1.f0) (l.getD i z34).f1.f1 (l.getD i z34).f1.f2 (l.getD i z34).f1.f3 8)) ∧ okI 44 0 0 0 (off l far i - 4) = true ∧ ws[q + 1]? = some (wdI 44 0 0 0 (off l far i - 4))) := by
 have hb := wl_beg ho hF i (by omega)
 have hok := insL_ok ho hl hJ hg hF hi
 have hmk := may_kinds (ho.1 i hi)
 have hop : 36 ≤ (l.getD i z34).f1.f0 ∧ (l.getD i z34).f1.f0 ≤ 44 := by omega
 have ewk : ∀ y : S32, okY y → ew y = wdI y.f0 y.f1 y.f2 y.f3 y.f4 := fun y h => by
  unfold okY at h
  unfold ew
  rw [if_pos h]
 refine ⟨(wl l far i).length, hb.symm, fun hf => ?_, fun hf => ?_⟩
 · have hL : insL l far i = [⟨(l.getD i z34).f1.f0, (l.getD i z34).f1.f1, (l.getD i z34).f1.f2, (l.getD i z34).f1.f3, off l far i⟩] := by
    unfold insL
    simp only
    rw [if_neg (by omega), if_neg (by omega), if_neg (by omega), if_neg (by rw [hf]; decide)]
   have h0 := wl_at (l := l) (far := far) (i := i) (t := 0) rfl (by rw [hL]; rfl) l.length hi
   have hk0 := hok _ (by rw [hL]; exact List.mem_singleton.2 rfl)
   rw [hw, Nat.add_zero, ewk _ hk0] at h0
   exact ⟨(List.getElem?_eq_some_iff.1 h0).1, hop, hk0, h0⟩
 · have hk3 := (hF.1 i hf).2
   have hL : insL l far i = [⟨turnI (l.getD i z34).f1.f0, (l.getD i z34).f1.f1, (l.getD i z34).f1.f2, (l.getD i z34).f1.f3, 8⟩, ⟨44, 0, 0, 0, off l far i - 4⟩] := by
    unfold insL
    simp only
    rw [if_neg (by omega), if_neg (by omega), if_neg (by omega), if_pos hf]
   have h0 := wl_at (l := l) (far := far) (i := i) (t := 0) rfl (by rw [hL]; rfl) l.length hi
   have h1 := wl_at (l := l) (far := far) (i := i) (t := 1) rfl (by rw [hL]; rfl) l.length hi
   have hk0 := hok _ (by rw [hL]; exact List.mem_cons_self)
   have hk1 := hok _ (by rw [hL]; exact List.mem_cons_of_mem _ (List.mem_singleton.2 rfl))
   rw [hw, Nat.add_zero, ewk _ hk0] at h0
   rw [hw, ewk _ hk1] at h1
   have ht : 36 ≤ (l.getD i z34).f1.f0 ∧ (l.getD i z34).f1.f0 ≤ 41 := by omega
   have htt := turn_in ht
   exact ⟨(List.getElem?_eq_some_iff.1 h1).1, ⟨htt.1, htt.2.1, htt.2.2⟩, ⟨hk0, h0⟩, hk1, h1⟩
set_option maxHeartbeats 32000000 in
theorem goes_law (A : Option Addr) (c : Nat) (l : List S48) (w : World) (hc : l.length ≤ c) (hl : ∀ y ∈ l, okx y.f1) (hC : Kd.C k48 w A l.length l) :
 Calls Try.prog 6 #[.slice A l.length c] w fun e w' => e = .returned (.bool true) ∧ Below w.heap.size w w' := by
 obtain ⟨x, hx, hn, hok⟩ := items_is l hl
 have HC := Lib.hid hC
 have HN := Lib.hid hn
 have HO := Lib.hid hok
 clear hC hn hok
 go_enter Try.func6, Try.ntmps6
 refine wp_seq_h fun K1 HK1 => ?_
 refine wp_listed (R := fun W W' => Below W.heap.size W W') 1 [.val (.bool false)] (fun W => Below w.heap.size w W) kr br ?_ ?_
 · intro vs W hG b hb
   refine ai ?_ (trivial)
   · exact gv rfl hG fun hp K hK => st_move (.inr rfl) (eval_const _) hK
 intro vs W hG hp b hb
 have q0 : vs 0 = _ := hp 0 kd
 clear hp
 simp only [fillS, Nat.reduceAdd, Nat.zero_add, q0] at hb
 subst hb
 refine wpList_nil ?_
 clear q0
 refine HK1.out _ _ ?_; clear HK1
 refine wp_seq_h fun K2 HK2 => ?_
 refine wp_listed (R := fun W W' => Below W.heap.size W W') 3 [.val (.slice A l.length c), rowS (x) w.heap.size, rowS (x) w.heap.size] (fun W => Below w.heap.size w W) kr hG ?_ ?_
 · intro vs W hG b hb
   have e0 : b.eval (.tmp 0) = .slice A l.length c := eo_ hb
   refine ai ?_ (ai ?_ (ai ?_ (trivial)))
   · exact mI hG fun hp => e0
   · refine g0 fun hp K hK => ?_; have e17 : b.eval (.tmp 17) = _ := ev 17 hb 0 (hp 0 kr); refine st_call rfl (by simp only [List.map_toArray, List.map_cons, List.map_nil, eval_const, e17]; try rfl) kr ?_; refine (l13I.calls 4200 A c l x _ (Kd.C_below HC.out hG) hc hx).mono ?_; rintro e w' ⟨v, rfl, hR, hb'⟩; obtain ⟨A2, c2, rfl, hc, hC⟩ := Kd.R_reads hR; exact ⟨_, rfl, hK _ _ ⟨_, _, rfl, hc, hC⟩ (below_step hG hb') hb'⟩
   · refine g0 fun hp K hK => ?_; have q1 : ∃ A c, (vs 1) = .slice A (x).length c ∧ (x).length ≤ c ∧ Kd.C k34 W A (x).length (x) := hp 1 kr; obtain ⟨A, c, hv, hc, hC⟩ := q1; have e18 := (ei_ 18 hb 1).trans hv; exact st_move (.inr rfl) (e18) (hK _ _ ⟨_, _, rfl, hc, hC⟩ hG br)
 intro vs W hG hp b hb
 have q0 : vs 0 = _ := hp 0 kd
 have q1 : ∃ A c, (vs 1) = .slice A (x).length c ∧ (x).length ≤ c ∧ Kd.C k34 W A (x).length (x) := hp 1 kd
 have q2 : ∃ A c, (vs 2) = .slice A (x).length c ∧ (x).length ≤ c ∧ Kd.C k34 W A (x).length (x) := hp 2 kd
 clear hp
 simp only [fillS, Nat.reduceAdd, Nat.zero_add, q0] at hb
 subst hb
 refine wpList_nil ?_
 clear q0
 clear q1
 obtain ⟨Ax, cx, hv, hcx, hCx⟩ := q2
 rw [hv]
 clear hv
 replace hG := And.intro hG hCx
 clear hCx
 refine HK2.out _ _ ?_; clear HK2
 by_cases ho : okL x
 rotate_left
 · skip
   refine wp_seq_h fun K3 HK3 => ?_
   refine wp_listed (R := fun W W' => Below W.heap.size W W') 7 [.val (.slice Ax x.length cx), errSpec (fun k => .tuple #[.slice none 0 0, .int .i64 k]), errSpec (fun k => .tuple #[.slice none 0 0, .int .i64 k]), .val (.slice none 0 0), errSpec (fun k => .int .i64 k), .val (.slice none 0 0), errSpec (fun k => .int .i64 k)] (fun W => Below w.heap.size w W ∧ Kd.C k34 W Ax x.length x) kr hG ?_ ?_
   · intro vs W hG b hb
     have e3 : b.eval (.tmp 3) = .slice Ax x.length cx := eo_ hb
     refine ai ?_ (ai ?_ (ai ?_ (ai ?_ (ai ?_ (ai ?_ (ai ?_ (trivial)))))))
     · exact mI hG fun hp => e3
     · refine g0 fun hp K hK => ?_; have e20 : b.eval (.tmp 20) = _ := ev 20 hb 0 (hp 0 kr); refine st_call rfl (by simp only [List.map_toArray, List.map_cons, List.map_nil, eval_const, e20]; try rfl) kr ?_; refine (words_bad Ax cx x 4096 _ (by decide) HN.out (fun x hx => (HO.out x hx).1) (fun x hx => (HO.out x hx).2) hG.2 ho).mono ?_; rintro e w' ⟨k, hk, rfl, hb'⟩; exact ⟨_, rfl, hK _ _ ⟨_, hk, rfl⟩ ⟨below_step hG.1 hb', Kd.C_below hG.2 hb'⟩ hb'⟩
     · refine g0 fun hp K hK => ?_; have q1 : ∃ k : Int, k ≠ 0 ∧ (vs 1) = .tuple #[.slice none 0 0, .int .i64 k] := hp 1 kr; obtain ⟨k, hk, hv⟩ := q1; have e21 := (ei_ 21 hb 1).trans hv; exact st_move (.inl rfl) (e21) (hK _ _ ⟨_, hk, rfl⟩ hG br)
     · refine g0 fun hp K hK => ?_; have q2 : ∃ k : Int, k ≠ 0 ∧ (vs 2) = .tuple #[.slice none 0 0, .int .i64 k] := hp 2 kr; obtain ⟨k, hk, hv⟩ := q2; have e19 := (ei_ 19 hb 2).trans hv; exact st_extract rfl (e19) kr (hK _ _ rfl hG br)
     · refine g0 fun hp K hK => ?_; have q2 : ∃ k : Int, k ≠ 0 ∧ (vs 2) = .tuple #[.slice none 0 0, .int .i64 k] := hp 2 kr; obtain ⟨k, hk, hv⟩ := q2; have e19 := (ei_ 19 hb 2).trans hv; exact st_extract rfl (e19) kr (hK _ _ ⟨_, hk, rfl⟩ hG br)
     · exact gv rfl hG fun hp K hK => st_move (.inr rfl) (ev 22 hb 3 (hp 3 kr)) hK
     · refine g0 fun hp K hK => ?_; have q4 : ∃ k : Int, k ≠ 0 ∧ (vs 4) = .int .i64 k := hp 4 kr; obtain ⟨k, hk, hv⟩ := q4; have e23 := (ei_ 23 hb 4).trans hv; exact st_move (.inr rfl) (e23) (hK _ _ ⟨_, hk, rfl⟩ hG br)
   intro vs W hG hp b hb
   have q1 : ∃ k : Int, k ≠ 0 ∧ (vs 1) = .tuple #[.slice none 0 0, .int .i64 k] := hp 1 kd
   have q2 : ∃ k : Int, k ≠ 0 ∧ (vs 2) = .tuple #[.slice none 0 0, .int .i64 k] := hp 2 kd
   have q4 : ∃ k : Int, k ≠ 0 ∧ (vs 4) = .int .i64 k := hp 4 kd
   have q5 : vs 5 = _ := hp 5 kd
   have q6 : ∃ k : Int, k ≠ 0 ∧ (vs 6) = .int .i64 k := hp 6 kd
   clear hp
   simp only [fillS, Nat.reduceAdd, Nat.zero_add, q5] at hb
   subst hb
   refine wpList_nil ?_
   clear q5
   clear q1 q2 q4
   obtain ⟨k, hk, hv⟩ := q6
   rw [hv]
   clear hv
   refine HK3.out _ _ ?_; clear HK3
   refine wp_seq_h fun K4 HK4 => ?_
   refine wp_seq_h fun K5 HK5 => ?_
   refine wp_listed (R := fun W W' => Below W.heap.size W W') 2 [.val (.int .i64 k), .val (.bool (k != 0))] (fun W => Below w.heap.size w W ∧ Kd.C k34 W Ax x.length x) kr hG ?_ ?_
   · intro vs W hG b hb
     have e5 : b.eval (.tmp 5) = .int .i64 k := eo_ hb
     refine ai ?_ (ai ?_ (trivial))
     · exact mI hG fun hp => e5
     · exact gv rfl hG fun hp K hK => st_bin rfl (ev 24 hb 0 (hp 0 kr)) (eval_const _) b_neq hK
   intro vs W hG hp b hb
   have q1 : vs 1 = _ := hp 1 kd
   clear hp
   simp only [fillS, Nat.reduceAdd, Nat.zero_add, q1] at hb
   subst hb
   refine wpList_nil ?_
   clear q1
   refine HK5.out _ _ ?_; clear HK5
   have hd : (k != 0) = true := by simpa using hk
   rw [hd]
   clear hd
   apply wp_cond_true rfl
   refine wp_seq_h fun K6 HK6 => ?_
   refine wp_listed (R := fun W W' => Below W.heap.size W W') 2 [.val (.bool true), .val (.bool true)] (fun W => Below w.heap.size w W ∧ Kd.C k34 W Ax x.length x) kr hG ?_ ?_
   · intro vs W hG b hb
     refine ai ?_ (ai ?_ (trivial))
     · refine g0 fun hp K hK => ?_; refine st_call rfl (by simp only [List.map_toArray, List.map_cons, List.map_nil, eval_const]; try rfl) kr ?_; refine (asm_lives _).mono ?_; rintro e w' ⟨rfl, hb'⟩; exact ⟨_, rfl, hK _ _ rfl ⟨below_step hG.1 hb', Kd.C_below hG.2 hb'⟩ hb'⟩
     · exact gv rfl hG fun hp K hK => st_move (.inr rfl) (ev 26 hb 0 (hp 0 kr)) hK
   intro vs W hG hp b hb
   have q1 : vs 1 = _ := hp 1 kd
   clear hp
   simp only [fillS, Nat.reduceAdd, Nat.zero_add, q1] at hb
   subst hb
   refine wpList_nil ?_
   clear q1
   refine HK6.out _ _ ?_; clear HK6
   have HG := Lib.hid hG.1
   clear hG
   go_wp2
   go_ret
   exact ⟨rfl, HG.out⟩
 refine wp_seq_h fun K7 HK7 => ?_
 refine wp_listed (R := fun W W' => Below W.heap.size W W') 2 [.val (.slice Ax x.length cx), wordS (x)] (fun W => Below w.heap.size w W ∧ Kd.C k34 W Ax x.length x) kr hG ?_ ?_
 · intro vs W hG b hb
   have e3 : b.eval (.tmp 3) = .slice Ax x.length cx := eo_ hb
   refine ai ?_ (ai ?_ (trivial))
   · exact mI hG fun hp => e3
   · refine g0 fun hp K hK => ?_; have e20 : b.eval (.tmp 20) = _ := ev 20 hb 0 (hp 0 kr); refine st_call rfl (by simp only [List.map_toArray, List.map_cons, List.map_nil, eval_const, e20]; try rfl) kr ?_; refine (words_good Ax cx x 4096 _ (by decide) HN.out (fun x hx => (HO.out x hx).1) (fun x hx => (HO.out x hx).2) hG.2 ho (fun far i hi => kinds_of ho i hi)).mono ?_; rintro e w' ⟨far, v, rfl, hR, hgf, hb'⟩; have hR0 := Kd.R_lower hR (Nat.zero_le _); exact ⟨_, rfl, hK _ _ ⟨_, _, rfl, hR0, hgf⟩ ⟨below_step hG.1 hb', Kd.C_below hG.2 hb'⟩ hb'⟩
 intro vs W hG hp b hb
 have q0 : vs 0 = _ := hp 0 kd
 have q1 : ∃ far v, (vs 1) = .tuple #[v, .int .i64 0] ∧ Kd.R (Kd.int .u32) 42 W 0 (fun _ => True) v (wl (x) far (x).length) ∧ (good (x) far ∧ FI (x) far) := hp 1 kd
 clear hp
 simp only [fillS, Nat.reduceAdd, Nat.zero_add, q0] at hb
 subst hb
 simp only [List.append_eq, List.cons_append, List.nil_append, List.drop_succ_cons, List.drop_zero]
 clear q0
 obtain ⟨far, v, hv, hR, hgf⟩ := q1
 rw [hv]
 clear hv
 obtain ⟨Aw, cw, rfl, hcw, hCw⟩ := Kd.R_reads hR
 clear hR hcw
 obtain ⟨ws, hws⟩ : ∃ ws, wl x far x.length = ws := ⟨_, rfl⟩
 rw [hws] at hCw ⊢
 have HGF := Lib.hid hgf
 have HWS := Lib.hid hws
 clear hgf hws
 obtain ⟨W0, hW0⟩ : ∃ W0, W0 = W := ⟨W, rfl⟩
 have HX := Lib.hid (show Kd.C k34 W0 Ax x.length x by rw [hW0]; exact hG.2)
 have HCW := Lib.hid (show Kd.C (Kd.int .u32) W0 Aw ws.length ws by rw [hW0]; exact hCw)
 have HW := Lib.hid (show Below w.heap.size w W0 by rw [hW0]; exact hG.1)
 clear hG hCw
 have hG : Below W0.heap.size W0 W := by rw [hW0]; exact Below.refl _ _
 clear hW0
 have HGG := Lib.hid hG
 clear hG
 go_wp2
 have hG := HGG.out
 clear HGG
 refine HK7.out _ _ ?_; clear HK7
 refine wp_seq_h fun K8 HK8 => ?_
 refine wp_seq_h fun K9 HK9 => ?_
 refine wp_listed (R := fun W W' => Below W.heap.size W W') 2 [.val (.int .i64 0), .val (.bool (0 != 0))] (fun W => Below W0.heap.size W0 W) kr hG ?_ ?_
 · intro vs W hG b hb
   have e5 : b.eval (.tmp 5) = .int .i64 0 := eo_ hb
   refine ai ?_ (ai ?_ (trivial))
   · exact mI hG fun hp => e5
   · exact gv rfl hG fun hp K hK => st_bin rfl (ev 24 hb 0 (hp 0 kr)) (eval_const _) b_neq hK
 intro vs W hG hp b hb
 have q1 : vs 1 = _ := hp 1 kd
 clear hp
 simp only [fillS, Nat.reduceAdd, Nat.zero_add, q1] at hb
 subst hb
 refine wpList_nil ?_
 clear q1
 refine HK9.out _ _ ?_; clear HK9
 apply wp_cond_false rfl
 apply wp_skip
 simp only [Exit.then]
 refine HK8.out _ _ ?_; clear HK8
 obtain ⟨kf, far2, hlay, hg2, hF2⟩ := layout_ref HN.out (fun x hx => (HO.out x hx).2) ho
 obtain rfl := far_one HGF.out.1 HGF.out.2 hg2 hF2
 clear hg2 hF2
 refine wp_seq_h fun K10 HK10 => ?_
 refine wp_listed (R := fun W W' => Below W.heap.size W W') 2 [.val (.slice Ax x.length cx), docS x far] (fun W => Below W0.heap.size W0 W) kr hG ?_ ?_
 · intro vs W hG b hb
   have e3 : b.eval (.tmp 3) = .slice Ax x.length cx := eo_ hb
   refine ai ?_ (ai ?_ (trivial))
   · exact mI hG fun hp => e3
   · refine g0 fun hp K hK => ?_; have e28 : b.eval (.tmp 28) = _ := ev 28 hb 0 (hp 0 kr); refine st_call rfl (by simp only [List.map_toArray, List.map_cons, List.map_nil, eval_const, e28]; try rfl) kr ?_; refine (d13L.calls kf Ax cx x _ _ _ _ (Kd.C_below HX.out hG) hcx hlay).mono ?_; rintro e w' ⟨v0, v1, rfl, hR0, hR1, hb'⟩; replace hR0 := Kd.R_lower hR0 (Nat.zero_le _); replace hR1 := Kd.R_lower hR1 (Nat.zero_le _); exact ⟨_, rfl, hK _ _ ⟨_, _, rfl, hR0, hR1⟩ (below_step hG hb') hb'⟩
 intro vs W hG hp b hb
 have q0 : vs 0 = _ := hp 0 kd
 have q1 : ∃ v0 v1, (vs 1) = .tuple #[v0, v1, .int .i64 0] ∧ Kd.R (Kd.int .i64) 3 W 0 (fun _ => True) v0 (begs x far (x.length + 1)) ∧ Kd.R Kd.bool 4 W 0 (fun _ => True) v1 (farL far x.length) := hp 1 kd
 clear hp
 simp only [fillS, Nat.reduceAdd, Nat.zero_add, q0] at hb
 subst hb
 simp only [List.append_eq, List.cons_append, List.nil_append, List.drop_succ_cons, List.drop_zero]
 clear q0
 obtain ⟨v0, v1, hv, hR0, hR1⟩ := q1
 rw [hv]
 clear hv
 obtain ⟨Ab, cb, hvb, hcb, hCb⟩ := Kd.R_reads hR0
 rw [begs_len] at hvb hcb hCb
 subst hvb
 obtain ⟨adb, hAb, -⟩ := ld_beg hCb (Nat.lt_succ_self _)
 subst hAb
 obtain ⟨Af, cf, hvf, hcf, hCf⟩ := Kd.R_reads hR1
 rw [farL_len] at hvf hcf hCf
 subst hvf
 clear hR0 hcb hR1 hcf
 have HX := Lib.hid (Kd.C_below HX.out hG)
 have HCW := Lib.hid (Kd.C_below HCW.out hG)
 have HW := Lib.hid (below_step HW.out hG)
 have HB := Lib.hid hCb
 have HF := Lib.hid hCf
 clear hCb hCf hG
 obtain ⟨W0, hW0⟩ : ∃ W0, W0 = W := ⟨W, rfl⟩
 rw [← hW0] at HX HCW HW HB HF
 have HGG : Hid (Below W0.heap.size W0 W) := Lib.hid (by rw [hW0]; exact Below.refl _ _)
 clear hW0
 go_wp2
 have hG := HGG.out
 clear HGG
 refine HK10.out _ _ ?_; clear HK10
 refine wp_seq_h fun K11 HK11 => ?_
 refine wp_seq_h fun K12 HK12 => ?_
 have HG := Lib.hid hG
 clear hG
 go_wp2
 refine HK12.out _ _ ?_; clear HK12
 apply wp_block
 refine wp_loopS [9, 10, 11, 12, 13, 14, 15, 16, 25, 33, 34, 35, 36, 37, 38, 39, 40, 41, 42, 43, 44, 45, 46, 47, 48, 49, 50, 51, 52, 53, 54, 55, 56, 57, 58, 59, 60, 61, 62, 63, 64, 65, 66, 67, 68, 69, 70, 71, 72, 73, 74, 75, 76, 77, 78, 79, 80, 81, 82, 83, 84, 85, 86, 87, 88, 89, 90, 91, 92, 93, 94, 95, 96, 97, 98, 99, 100, 101, 102, 103, 104, 105, 106, 107, 108, 109, 110, 111, 112, 113, 114, 115, 116, 117, 118, 119, 120, 121, 122, 123, 124, 125, 126, 127, 128, 129, 130, 131, 132, 133, 134, 135, 136, 137, 138, 139, 140, 141, 142, 143, 144, 145, 146, 147, 148, 149, 150, 151, 152, 153, 154, 155, 156, 157, 158, 159, 160] (fun sl W => ∃ i : Nat, sl 9 = .int .i64 (i : Int) ∧ i ≤ x.length ∧ Below W0.heap.size W0 W) (fun sl W => Msr (x.length : Int) (sl 9)) ⟨0, rfl, Nat.zero_le _, HG.out⟩ ?_
 clear HG
 intro vs W b hb hI
 obtain ⟨i, hsl, hi, hG⟩ := hI
 simp only [setSlots, Act.put, List.setIfInBounds_toArray, List.set_cons_succ, List.set_cons_zero] at hb
 subst hb
 replace hsl : vs 9 = .int .i64 (i : Int) := hsl
 rw [hsl]
 clear hsl
 refine wp_seq_h fun K13 HK13 => ?_
 refine wp_seq_h fun K14 HK14 => ?_
 refine wp_listed (R := fun W W' => Below W.heap.size W W') 4 [.val (.int .i64 (i : Int)), .val (.slice Ax x.length cx), .val (.int .i64 ((x.length : Nat) : Int)), .val (.bool (decide ((i : Int) < ((x.length : Nat) : Int))))] (fun W => Below W0.heap.size W0 W) kr hG ?_ ?_
 · intro vs W hG b hb
   have e3 : b.eval (.tmp 3) = .slice Ax x.length cx := eo_ hb
   have e9 : b.eval (.tmp 9) = .int .i64 (i : Int) := eo_ hb
   refine ai ?_ (ai ?_ (ai ?_ (ai ?_ (trivial))))
   · exact mI hG fun hp => e9
   · exact mI hG fun hp => e3
   · refine g0 fun hp K hK => ?_; have e34 : b.eval (.tmp 34) = _ := ev 34 hb 1 (hp 1 kr); exact st_builtin rfl (by simp only [List.map_toArray, List.map_cons, List.map_nil, eval_const, e34]; try rfl) (fun cs => b_len 23 (by decide) cs _) (hK _ _ rfl hG br)
   · exact gv rfl hG fun hp K hK => st_bin rfl (ev 33 hb 0 (hp 0 kr)) (ev 35 hb 2 (hp 2 kr)) b_lss hK
 intro vs W hG hp b hb
 have q3 : vs 3 = _ := hp 3 kd
 clear hp
 simp only [fillS, Nat.reduceAdd, Nat.zero_add, q3] at hb
 subst hb
 refine wpList_nil ?_
 clear q3
 refine HK14.out _ _ ?_; clear HK14
 refine wp_cond_split rfl (fun hlt => ?_) (fun hlt => ?_)
 rotate_left
 · clear hlt
   apply wp_exit
   simp only [Exit.inBlock, Exit.then, ↓reduceIte]
   refine HK11.out _ _ ?_; clear HK11
   refine wp_seq_h fun K15 HK15 => ?_
   refine wp_listed (R := fun W W' => Below W.heap.size W W') 2 [.val (.bool true), .val (.bool true)] (fun W => Below W0.heap.size W0 W) kr hG ?_ ?_
   · intro vs W hG b hb
     refine ai ?_ (ai ?_ (trivial))
     · refine g0 fun hp K hK => ?_; refine st_call rfl (by simp only [List.map_toArray, List.map_cons, List.map_nil, eval_const]; try rfl) kr ?_; refine (asm_lives _).mono ?_; rintro e w' ⟨rfl, hb'⟩; exact ⟨_, rfl, hK _ _ rfl (below_step hG hb') hb'⟩
     · exact gv rfl hG fun hp K hK => st_move (.inr rfl) (ev 161 hb 0 (hp 0 kr)) hK
   intro vs W hG hp b hb
   have q1 : vs 1 = _ := hp 1 kd
   clear hp
   simp only [fillS, Nat.reduceAdd, Nat.zero_add, q1] at hb
   subst hb
   refine wpList_nil ?_
   clear q1
   refine HK15.out _ _ ?_; clear HK15
   have HG := Lib.hid hG
   clear hG
   go_wp2
   go_ret
   exact ⟨rfl, below_step HW.out HG.out⟩
 have hil : i < x.length := by have := of_decide_eq_true hlt; omega
 clear hlt
 apply wp_skip
 simp only [Exit.then]
 refine HK13.out _ _ ?_; clear HK13
 have HGs := Lib.hid hG
 clear hG
 obtain ⟨ad, hAd, -⟩ := ld_fld HX.out (q := 0) hil rfl
 subst hAd
 obtain ⟨adf, hAf, -⟩ := ld_far HF.out hil
 subst hAf
 have hxm : x.getD i z34 ∈ x := by
  have : x.getD i z34 = x[i] := by simp [List.getD, hil]
  rw [this]
  exact List.getElem_mem hil
 have hG := HGs.out
 clear HGs
 refine wp_seq_h fun K16 HK16 => ?_
 apply wp_block
 refine wp_seq_h fun K17 HK17 => ?_
 refine wp_seq_h fun K18 HK18 => ?_
 refine wp_listed (R := fun W W' => Below W.heap.size W W') 14 [.val (.slice (some ad) x.length cx), .val (.int .i64 (i : Int)), .val (.pointer (some (ad.add (i * 7)))), .val (.pointer (some ((ad.add (i * 7)).add 0))), .val (.int .i64 (x.getD i z34).f0), .val (.bool (((x.getD i z34).f0) != 3)), .val (.bool (((x.getD i z34).f0) != 3)), .val ((bif ((((x.getD i z34).f0) != 3) == true) then (.slice (some ad) x.length cx) else undef)), .val ((bif ((((x.getD i z34).f0) != 3) == true) then (.int .i64 (i : Int)) else undef)), .val ((bif ((((x.getD i z34).f0) != 3) == true) then (.pointer (some (ad.add (i * 7)))) else undef)), .val ((bif ((((x.getD i z34).f0) != 3) == true) then (.pointer (some ((ad.add (i * 7)).add 0))) else undef)), .val ((bif ((((x.getD i z34).f0) != 3) == true) then (.int .i64 (x.getD i z34).f0) else undef)), .val ((bif ((((x.getD i z34).f0) != 3) == true) then (.bool (((x.getD i z34).f0) != 4)) else undef)), .val (.bool ((((x.getD i z34).f0) != 3) && (((x.getD i z34).f0) != 4)))] (fun W => Below W0.heap.size W0 W) kr hG ?_ ?_
 · intro vs W hG b hb
   have i45 := ei_ 45 hb 6
   have e3 : b.eval (.tmp 3) = .slice (some ad) x.length cx := eo_ hb
   have e9 : b.eval (.tmp 9) = .int .i64 (i : Int) := eo_ hb
   refine ai ?_ (ai ?_ (ai ?_ (ai ?_ (ai ?_ (ai ?_ (ai ?_ (ai ?_ (ai ?_ (ai ?_ (ai ?_ (ai ?_ (ai ?_ (ai ?_ (trivial))))))))))))))
   · exact mI hG fun hp => e3
   · exact mI hG fun hp => e9
   · exact gv rfl hG fun hp K hK => st_index rfl (ev 39 hb 0 (hp 0 kr)) (ev 40 hb 1 (hp 1 kr)) (ix23 hil _) hK
   · exact gv rfl hG fun hp K hK => st_field rfl (ev 41 hb 2 (hp 2 kr)) (fa34k _ _) hK
   · exact gv rfl hG fun hp K hK => st_load rfl (ev 42 hb 3 (hp 3 kr)) (by obtain ⟨a', ha', hl'⟩ := ld_fld (Kd.C_below HX.out hG) (q := 0) hil rfl; rw [Option.some.inj ha']; exact ld_cell 3 kr hl') hK
   · exact gv rfl hG fun hp K hK => st_bin rfl (ev 43 hb 4 (hp 4 kr)) (eval_const _) b_neq hK
   · exact mI hG fun hp => ev 44 hb 5 (hp 5 kr)
   · exact gI 6 45 (((x.getD i z34).f0) != 3) true i45 hG fun hp K hK hc => st_move (.inl rfl) (e3) (hK _ _ (cond_yes hc).symm hG br)
   · exact gI 6 45 (((x.getD i z34).f0) != 3) true i45 hG fun hp K hK hc => st_move (.inl rfl) (e9) (hK _ _ (cond_yes hc).symm hG br)
   · exact gI 6 45 (((x.getD i z34).f0) != 3) true i45 hG fun hp K hK hc => st_index rfl ((ev 46 hb 7 (hp 7 kr)).trans (cond_yes hc)) ((ev 47 hb 8 (hp 8 kr)).trans (cond_yes hc)) (ix23 hil _) (hK _ _ (cond_yes hc).symm hG br)
   · exact gI 6 45 (((x.getD i z34).f0) != 3) true i45 hG fun hp K hK hc => st_field rfl ((ev 48 hb 9 (hp 9 kr)).trans (cond_yes hc)) (fa34k _ _) (hK _ _ (cond_yes hc).symm hG br)
   · exact gI 6 45 (((x.getD i z34).f0) != 3) true i45 hG fun hp K hK hc => st_load rfl ((ev 49 hb 10 (hp 10 kr)).trans (cond_yes hc)) (by obtain ⟨a', ha', hl'⟩ := ld_fld (Kd.C_below HX.out hG) (q := 0) hil rfl; rw [Option.some.inj ha']; exact ld_cell 3 kr hl') (hK _ _ (cond_yes hc).symm hG br)
   · exact gI 6 45 (((x.getD i z34).f0) != 3) true i45 hG fun hp K hK hc => st_bin rfl ((ev 50 hb 11 (hp 11 kr)).trans (cond_yes hc)) (eval_const _) b_neq (hK _ _ (cond_yes hc).symm hG br)
   · refine g0 fun hp K hK => ?_; have e45 : b.eval (.tmp 45) = _ := ev 45 hb 6 (hp 6 kr); have e51 : b.eval (.tmp 51) = _ := ev 51 hb 12 (hp 12 kr); exact st_pick rfl (e45) (by first | (rw [e51]; exact pick_and) | (rw [show b.eval (Operand.tmp 51) = _ from eval_const _]; exact pick_and)) (hK _ _ rfl hG br)
 intro vs W hG hp b hb
 have q13 : vs 13 = _ := hp 13 kd
 clear hp
 simp only [fillS, Nat.reduceAdd, Nat.zero_add, q13] at hb
 subst hb
 refine wpList_nil ?_
 clear q13
 refine HK18.out _ _ ?_; clear HK18
 have hinc : IntKind.i64.wrap ((i : Int) + 1) = (i : Int) + 1 := IntWalk.i64_in _ (by have := HN.out; omega)
 refine wp_cond_split rfl (fun hk => ?_) (fun hk => ?_)
 · clear hk
   apply wp_exit
   simp only [Exit.inBlock, Exit.then, ↓reduceIte]
   refine HK16.out _ _ ?_; clear HK16
   have HG := Lib.hid hG
   have Hil := Lib.hid hil
   clear hG hil hi
   go_wp2
   exact ⟨loop_frame kr, ⟨i + 1, by show Value.int .i64 _ = _; simp, Hil.out, HG.out⟩, Msr.lt (by have := Hil.out; omega)⟩
 have hk2 : (x.getD i z34).f0 = 3 ∨ (x.getD i z34).f0 = 4 := by
  by_cases h3 : (x.getD i z34).f0 = 3
  · exact .inl h3
  · by_cases h4 : (x.getD i z34).f0 = 4
    · exact .inr h4
    · have e3 : ((x.getD i z34).f0 != 3) = true := bne_iff_ne.mpr h3
      have e4 : ((x.getD i z34).f0 != 4) = true := bne_iff_ne.mpr h4
      rw [e3, e4] at hk
      exact absurd hk (by decide)
 clear hk
 obtain ⟨q, hbq, hnear, hfar⟩ := goes_at ho HN.out (fun x hx => (HO.out x hx).2) HGF.out.1 HGF.out.2 hil hk2 HWS.out
 have hlab := lab_kind ho hil (.inr hk2)
 have hof : beg x far (at_ x (x.getD i z34).f2) - beg x far i = off x far i := rfl
 have hbi := beg_in x far i
 have hal := at_lt x (x.getD i z34).f2
 have hba := beg_in x far (at_ x (x.getD i z34).f2)
 have hoi := off_in HN.out far hil
 have hNn := HN.out
 generalize hxy : x.getD i z34 = y at *
 apply wp_skip
 simp only [Exit.then]
 refine HK17.out _ _ ?_; clear HK17
 refine wp_seq_h fun K19 HK19 => ?_
 refine wp_listed (R := fun W W' => Below W.heap.size W W') 5 [.val (.slice (some adb) (x.length + 1) cb), .val (.int .i64 (i : Int)), .val (.pointer (some (adb.add i))), .val (.int .i64 (beg x far i)), .val (.int .i64 (beg x far i))] (fun W => Below W0.heap.size W0 W) kr hG ?_ ?_
 · intro vs W hG b hb
   have e6 : b.eval (.tmp 6) = .slice (some adb) (x.length + 1) cb := eo_ hb
   have e9 : b.eval (.tmp 9) = .int .i64 (i : Int) := eo_ hb
   refine ai ?_ (ai ?_ (ai ?_ (ai ?_ (ai ?_ (trivial)))))
   · exact mI hG fun hp => e6
   · exact mI hG fun hp => e9
   · exact gv rfl hG fun hp K hK => st_index rfl (ev 53 hb 0 (hp 0 kr)) (ev 54 hb 1 (hp 1 kr)) (ix25n (Nat.lt_succ_of_lt hil) _) hK
   · exact gv rfl hG fun hp K hK => st_load rfl (ev 55 hb 2 (hp 2 kr)) (by obtain ⟨a', ha', hl'⟩ := ld_beg (Kd.C_below HB.out hG) (Nat.lt_succ_of_lt hil); rw [Option.some.inj ha']; exact ld_cell 3 kr hl') hK
   · exact gv rfl hG fun hp K hK => st_move (.inr rfl) (ev 56 hb 3 (hp 3 kr)) hK
 intro vs W hG hp b hb
 have q4 : vs 4 = _ := hp 4 kd
 clear hp
 simp only [fillS, Nat.reduceAdd, Nat.zero_add, q4] at hb
 subst hb
 refine wpList_nil ?_
 clear q4
 refine HK19.out _ _ ?_; clear HK19
 refine wp_seq_h fun K20 HK20 => ?_
 refine wp_seq_h fun K21 HK21 => ?_
 refine wp_listed (R := fun W W' => Below W.heap.size W W') 4 [.val (.slice (some adf) x.length cf), .val (.int .i64 (i : Int)), .val (.pointer (some (adf.add i))), .val (.bool (far i))] (fun W => Below W0.heap.size W0 W) kr hG ?_ ?_
 · intro vs W hG b hb
   have e7 : b.eval (.tmp 7) = .slice (some adf) x.length cf := eo_ hb
   have e9 : b.eval (.tmp 9) = .int .i64 (i : Int) := eo_ hb
   refine ai ?_ (ai ?_ (ai ?_ (ai ?_ (trivial))))
   · exact mI hG fun hp => e7
   · exact mI hG fun hp => e9
   · exact gv rfl hG fun hp K hK => st_index rfl (ev 57 hb 0 (hp 0 kr)) (ev 58 hb 1 (hp 1 kr)) (ix26 hil _) hK
   · exact gv rfl hG fun hp K hK => st_load rfl (ev 59 hb 2 (hp 2 kr)) (by obtain ⟨a', ha', hl'⟩ := ld_far (Kd.C_below HF.out hG) hil; rw [Option.some.inj ha']; exact ld_cell 4 kr hl') hK
 intro vs W hG hp b hb
 have q3 : vs 3 = _ := hp 3 kd
 clear hp
 simp only [fillS, Nat.reduceAdd, Nat.zero_add, q3] at hb
 subst hb
 refine wpList_nil ?_
 clear q3
 refine HK21.out _ _ ?_; clear HK21
 refine wp_cond_split rfl (fun hfi => ?_) (fun hfi => ?_)
 · skip
   obtain ⟨hql, hturn, ⟨hokv, hwv⟩, hoky, hwy⟩ := hfar hfi
   clear hnear hfar
   have hqv : q < ws.length := by omega
   have hdy := (Pure.rdec_back 44 0 0 0 (off x far i - 4) hoky (by decide) (by decide)).1
   have hdv := (Pure.rdec_back _ _ _ _ _ hokv (by omega) (by omega)).1
   refine wp_listed (R := fun W W' => Below W.heap.size W W') 2 [.val (.int .i64 (beg x far i)), .val (.int .i64 (beg x far i + 4))] (fun W => Below W0.heap.size W0 W) kr hG ?_ ?_
   · intro vs W hG b hb
     have e10 : b.eval (.tmp 10) = .int .i64 (beg x far i) := eo_ hb
     refine ai ?_ (ai ?_ (trivial))
     · exact mI hG fun hp => e10
     · exact gv rfl hG fun hp K hK => st_bin rfl (ev 61 hb 0 (hp 0 kr)) (eval_const _) (b_add (IntWalk.i64_in _ (by omega))) hK
   intro vs W hG hp b hb
   have q0 : vs 0 = _ := hp 0 kd
   have q1 : vs 1 = _ := hp 1 kd
   clear hp
   simp only [fillS, Nat.reduceAdd, Nat.zero_add, q0, q1] at hb
   subst hb
   simp only [List.append_eq, List.cons_append, List.nil_append, List.drop_succ_cons, List.drop_zero]
   clear q0 q1
   refine wpList_plain rfl fun K' hK' => ?_
   refine st_move (v := .int .i64 (beg x far i + 4)) (.inr rfl) kr ?_
   refine hK' _ _ ?_
   clear hK'
   refine wpList_nil ?_
   simp only [Act.put, List.setIfInBounds_toArray, List.set_cons_succ, List.set_cons_zero]
   refine HK20.out _ _ ?_; clear HK20
   refine wp_seq_h fun K22 HK22 => ?_
   refine wp_seq_h fun K23 HK23 => ?_
   refine wp_listed (R := fun W W' => Below W.heap.size W W') 5 [.val (.int .i64 (beg x far i + 4)), .val (.int .i64 ((q + 1) : Nat)), .val (.slice Aw ws.length cw), .val (.int .i64 ((ws.length : Nat) : Int)), .val (.bool (decide (((ws.length : Nat) : Int) ≤ ((q + 1) : Nat))))] (fun W => Below W0.heap.size W0 W) kr hG ?_ ?_
   · intro vs W hG b hb
     have e4 : b.eval (.tmp 4) = .slice Aw ws.length cw := eo_ hb
     have e10 : b.eval (.tmp 10) = .int .i64 (beg x far i + 4) := eo_ hb
     refine ai ?_ (ai ?_ (ai ?_ (ai ?_ (ai ?_ (trivial)))))
     · exact mI hG fun hp => e10
     · exact gv rfl hG fun hp K hK => st_bin rfl (ev 63 hb 0 (hp 0 kr)) (eval_const _) (b_quo (by decide) (by rw [IntWalk.i64_quo _ _ (by omega)]; omega)) hK
     · exact mI hG fun hp => e4
     · refine g0 fun hp K hK => ?_; have e65 : b.eval (.tmp 65) = _ := ev 65 hb 2 (hp 2 kr); exact st_builtin rfl (by simp only [List.map_toArray, List.map_cons, List.map_nil, eval_const, e65]; try rfl) (fun cs => len39 cs _) (hK _ _ rfl hG br)
     · exact gv rfl hG fun hp K hK => st_bin rfl (ev 64 hb 1 (hp 1 kr)) (ev 66 hb 3 (hp 3 kr)) b_geq hK
   intro vs W hG hp b hb
   have q4 : vs 4 = _ := hp 4 kd
   clear hp
   simp only [fillS, Nat.reduceAdd, Nat.zero_add, q4] at hb
   subst hb
   refine wpList_nil ?_
   clear q4
   refine HK23.out _ _ ?_; clear HK23
   have hc : (decide (((ws.length : Nat) : Int) ≤ ((q + 1) : Nat))) = false := decide_eq_false (by omega)
   rw [hc]
   clear hc
   apply wp_cond_false rfl
   apply wp_skip
   simp only [Exit.then]
   refine HK22.out _ _ ?_; clear HK22
   obtain ⟨adw, hAw, -⟩ := ld_w HCW.out hwy
   subst hAw
   refine wp_seq_h fun K24 HK24 => ?_
   refine wp_listed (R := fun W W' => Below W.heap.size W W') 10 [.val (.slice (some adw) ws.length cw), .val (.int .i64 (beg x far i + 4)), .val (.int .i64 ((q + 1) : Nat)), .val (.pointer (some (adw.add (q + 1)))), .val (.int .u32 (wdI 44 0 0 0 (off x far i - 4))), .val (.tuple #[.agg #[.int .i64 44, .int .i64 0, .int .i64 0, .int .i64 0, .int .i32 (off x far i - 4)], .bool true]), .val (.tuple #[.agg #[.int .i64 44, .int .i64 0, .int .i64 0, .int .i64 0, .int .i32 (off x far i - 4)], .bool true]), .val (.agg #[.int .i64 44, .int .i64 0, .int .i64 0, .int .i64 0, .int .i32 (off x far i - 4)]), .val (.bool true), newSpec (.cells #[.int .i64 0, .int .i64 0, .int .i64 0, .int .i64 0, .int .i32 0] 32 (0, 0)) (W0.heap.size)] (fun W => Below W0.heap.size W0 W) kr hG ?_ ?_
   · intro vs W hG b hb
     have e4 : b.eval (.tmp 4) = .slice (some adw) ws.length cw := eo_ hb
     have e10 : b.eval (.tmp 10) = .int .i64 (beg x far i + 4) := eo_ hb
     refine ai ?_ (ai ?_ (ai ?_ (ai ?_ (ai ?_ (ai ?_ (ai ?_ (ai ?_ (ai ?_ (ai ?_ (trivial))))))))))
     · exact mI hG fun hp => e4
     · exact mI hG fun hp => e10
     · exact gv rfl hG fun hp K hK => st_bin rfl (ev 70 hb 1 (hp 1 kr)) (eval_const _) (b_quo (by decide) (by rw [IntWalk.i64_quo _ _ (by omega)]; omega)) hK
     · exact gv rfl hG fun hp K hK => st_index rfl (ev 69 hb 0 (hp 0 kr)) (ev 71 hb 2 (hp 2 kr)) (ix39 hql _) hK
     · exact gv rfl hG fun hp K hK => st_load rfl (ev 72 hb 3 (hp 3 kr)) (by obtain ⟨a', ha', hl'⟩ := ld_w (Kd.C_below HCW.out hG) hwy; rw [Option.some.inj ha']; exact ld_cell 42 kr hl') hK
     · refine g0 fun hp K hK => ?_; have e73 : b.eval (.tmp 73) = _ := ev 73 hb 4 (hp 4 kr); refine st_call rfl (by simp only [List.map_toArray, List.map_cons, List.map_nil, eval_const, e73]; try rfl) kr ?_; refine (d3D.calls 404 (wdI 44 0 0 0 (off x far i - 4)) 44 0 0 0 (off x far i - 4) true _ hdy).mono ?_; rintro e w' ⟨rfl, hb'⟩; exact ⟨_, rfl, hK _ _ rfl (below_step hG hb') hb'⟩
     · exact mI hG fun hp => ev 74 hb 5 (hp 5 kr)
     · exact gv rfl hG fun hp K hK => st_extract rfl (ev 68 hb 6 (hp 6 kr)) kr hK
     · exact gv rfl hG fun hp K hK => st_extract rfl (ev 68 hb 6 (hp 6 kr)) kr hK
     · exact g0 fun hp K hK => st_alloc rfl (new32 _) (hK _ _ ⟨_, rfl, blk_new _ _, hG.size⟩ (hG.alloc hG.size _) (br.alloc (Nat.le_refl _) _))
   intro vs W hG hp b hb
   have q7 : vs 7 = _ := hp 7 kd
   have q8 : vs 8 = _ := hp 8 kd
   have q9 : ∃ gg, (vs 9) = .pointer (some ⟨gg, 0, none⟩) ∧ W.heap[gg]? = some (.cells #[.int .i64 0, .int .i64 0, .int .i64 0, .int .i64 0, .int .i32 0] 32 (0, 0)) ∧ W0.heap.size ≤ gg := hp 9 kd
   clear hp
   simp only [fillS, Nat.reduceAdd, Nat.zero_add, q7, q8] at hb
   subst hb
   simp only [List.append_eq, List.cons_append, List.nil_append, List.drop_succ_cons, List.drop_zero]
   clear q7 q8
   obtain ⟨gx, hv, Agx, hgx⟩ := q9
   rw [hv]
   clear hv
   refine wpList_store_mid rfl 32 (.tmp 11) (.tmp 75) rfl gx 0 #[.int .i64 44, .int .i64 0, .int .i64 0, .int .i64 0, .int .i32 (off x far i - 4)] kr kr (by have h := blk_there Agx; exact h) kr kr ?_
   have hX1 := blk_puts (cs' := #[.int .i64 44, .int .i64 0, .int .i64 0, .int .i64 0, .int .i32 (off x far i - 4)]) Agx rfl
   have hG2 := And.intro (below_sets #[.int .i64 44, .int .i64 0, .int .i64 0, .int .i64 0, .int .i32 (off x far i - 4)].toList 0 W0 W gx hG hgx) hX1
   clear hX1
   clear Agx hG
   generalize W.setCells gx 0 #[.int .i64 44, .int .i64 0, .int .i64 0, .int .i64 0, .int .i32 (off x far i - 4)].toList = V at hG2 ⊢
   clear W
   refine wpList_plain rfl fun K' hK' => ?_
   refine st_move (v := .bool true) (.inr rfl) kr ?_
   refine hK' _ _ ?_
   clear hK'
   refine wpList_nil ?_
   simp only [Act.put, List.setIfInBounds_toArray, List.set_cons_succ, List.set_cons_zero]
   have hG := hG2
   clear hG2
   refine HK24.out _ _ ?_; clear HK24
   refine wp_seq_h fun K25 HK25 => ?_
   refine wp_listed (R := fun W W' => Below W.heap.size W W') 12 [.val (.slice (some ad) x.length cx), .val (.slice (some ad) x.length cx), .val (.int .i64 (i : Int)), .val (.pointer (some (ad.add (i * 7)))), .val (.pointer (some ((ad.add (i * 7)).add 6))), .val (.int .i64 y.f2), .val (.tuple #[.int .u32 (4096 + beg x far (at_ x y.f2)), .int .i64 0]), .val (.tuple #[.int .u32 (4096 + beg x far (at_ x y.f2)), .int .i64 0]), .val (.int .u32 (4096 + beg x far (at_ x y.f2))), .val (.int .i64 0), .val (.int .u32 (4096 + beg x far (at_ x y.f2))), .val (.int .i64 0)] (fun W => Below W0.heap.size W0 W ∧ W.heap[gx]? = some (.cells #[.int .i64 44, .int .i64 0, .int .i64 0, .int .i64 0, .int .i32 (off x far i - 4)] 32 (0, 0))) kr hG ?_ ?_
   · intro vs W hG b hb
     have e3 : b.eval (.tmp 3) = .slice (some ad) x.length cx := eo_ hb
     have e9 : b.eval (.tmp 9) = .int .i64 (i : Int) := eo_ hb
     refine ai ?_ (ai ?_ (ai ?_ (ai ?_ (ai ?_ (ai ?_ (ai ?_ (ai ?_ (ai ?_ (ai ?_ (ai ?_ (ai ?_ (trivial))))))))))))
     · exact mI hG fun hp => e3
     · exact mI hG fun hp => e3
     · exact mI hG fun hp => e9
     · exact gv rfl hG fun hp K hK => st_index rfl (ev 79 hb 1 (hp 1 kr)) (ev 80 hb 2 (hp 2 kr)) (ix23 hil _) hK
     · exact gv rfl hG fun hp K hK => st_field rfl (ev 81 hb 3 (hp 3 kr)) (fa34 _ _) hK
     · exact gv rfl hG fun hp K hK => st_load rfl (ev 82 hb 4 (hp 4 kr)) (by obtain ⟨a', ha', hl'⟩ := ld_fld (Kd.C_below HX.out hG.1) (q := 6) hil (by rw [hxy]; rfl); rw [Option.some.inj ha']; exact ld_cell 3 kr hl') hK
     · refine g0 fun hp K hK => ?_; have e78 : b.eval (.tmp 78) = _ := ev 78 hb 0 (hp 0 kr); have e83 : b.eval (.tmp 83) = _ := ev 83 hb 5 (hp 5 kr); refine st_call rfl (by simp only [List.map_toArray, List.map_cons, List.map_nil, eval_const, e78, e83]; try rfl) kr ?_; refine (where_good (some ad) cx x 4096 y.f2 _ (by decide) (by decide) HN.out (fun x hx => (HO.out x hx).1) (fun x hx => (HO.out x hx).2) (Kd.C_below HX.out hG.1) ho (HO.out _ hxm).1 hlab).mono ?_; rintro e w' ⟨far', rfl, hgf', hb'⟩; obtain rfl : far' = far := far_one hgf'.1 hgf'.2 HGF.out.1 HGF.out.2; exact ⟨_, rfl, hK _ _ rfl ⟨below_step hG.1 hb', blk_below hG.2 hb'⟩ hb'⟩
     · exact mI hG fun hp => ev 84 hb 6 (hp 6 kr)
     · exact gv rfl hG fun hp K hK => st_extract rfl (ev 77 hb 7 (hp 7 kr)) kr hK
     · exact gv rfl hG fun hp K hK => st_extract rfl (ev 77 hb 7 (hp 7 kr)) kr hK
     · exact gv rfl hG fun hp K hK => st_move (.inr rfl) (ev 85 hb 8 (hp 8 kr)) hK
     · exact gv rfl hG fun hp K hK => st_move (.inr rfl) (ev 86 hb 9 (hp 9 kr)) hK
   intro vs W hG hp b hb
   have q10 : vs 10 = _ := hp 10 kd
   have q11 : vs 11 = _ := hp 11 kd
   clear hp
   simp only [fillS, Nat.reduceAdd, Nat.zero_add, q10, q11] at hb
   subst hb
   refine wpList_nil ?_
   clear q10 q11
   refine HK25.out _ _ ?_; clear HK25
   refine wp_seq_h fun K26 HK26 => ?_
   refine wp_seq_h fun K27 HK27 => ?_
   refine wp_listed (R := fun W W' => Below W.heap.size W W') 17 [.val (.bool true), .val (.bool (!true)), .val (.bool (!true)), .val ((bif ((!true) == false) then (.int .i64 0) else undef)), .val ((bif ((!true) == false) then (.bool (0 != 0)) else undef)), .val (.bool ((!true) || (0 != 0))), .val (.bool ((!true) || (0 != 0))), .val ((bif (((!true) || (0 != 0)) == false) then (.int .i64 (beg x far i + 4)) else undef)), .val ((bif (((!true) || (0 != 0)) == false) then (.int .i64 (4096 + (beg x far i + 4))) else undef)), .val ((bif (((!true) || (0 != 0)) == false) then (.int .u32 (4096 + (beg x far i + 4))) else undef)), .val ((bif (((!true) || (0 != 0)) == false) then (.pointer (some ⟨gx, 4, none⟩)) else undef)), .val ((bif (((!true) || (0 != 0)) == false) then (.int .i32 (off x far i - 4)) else undef)), .val ((bif (((!true) || (0 != 0)) == false) then (.int .u32 ((off x far i - 4) % 4294967296)) else undef)), .val ((bif (((!true) || (0 != 0)) == false) then (.int .u32 (4096 + beg x far (at_ x y.f2))) else undef)), .val ((bif (((!true) || (0 != 0)) == false) then (.int .u32 (4096 + beg x far (at_ x y.f2))) else undef)), .val ((bif (((!true) || (0 != 0)) == false) then (.bool ((4096 + beg x far (at_ x y.f2)) != (4096 + beg x far (at_ x y.f2)))) else undef)), .val (.bool (((!true) || (0 != 0)) || ((4096 + beg x far (at_ x y.f2)) != (4096 + beg x far (at_ x y.f2)))))] (fun W => Below W0.heap.size W0 W ∧ W.heap[gx]? = some (.cells #[.int .i64 44, .int .i64 0, .int .i64 0, .int .i64 0, .int .i32 (off x far i - 4)] 32 (0, 0))) kr hG ?_ ?_
   · intro vs W hG b hb
     have i93 := ei_ 93 hb 6
     have e10 : b.eval (.tmp 10) = .int .i64 (beg x far i + 4) := eo_ hb
     have e11 : b.eval (.tmp 11) = .pointer (some ⟨gx, 0, none⟩) := eo_ hb
     have e12 : b.eval (.tmp 12) = .bool true := eo_ hb
     have e13 : b.eval (.tmp 13) = .int .u32 (4096 + beg x far (at_ x y.f2)) := eo_ hb
     have e14 : b.eval (.tmp 14) = .int .i64 0 := eo_ hb
     refine ai ?_ (ai ?_ (ai ?_ (ai ?_ (ai ?_ (ai ?_ (ai ?_ (ai ?_ (ai ?_ (ai ?_ (ai ?_ (ai ?_ (ai ?_ (ai ?_ (ai ?_ (ai ?_ (ai ?_ (trivial)))))))))))))))))
     · exact mI hG fun hp => e12
     · exact gv rfl hG fun hp K hK => st_un rfl (ev 87 hb 0 (hp 0 kr)) u_not hK
     · exact mI hG fun hp => ev 88 hb 1 (hp 1 kr)
     · exact gI 2 89 (!true) false (ei_ 89 hb 2) hG fun hp K hK hc => st_move (.inl rfl) (e14) (hK _ _ (cond_yes hc).symm hG br)
     · exact gI 2 89 (!true) false (ei_ 89 hb 2) hG fun hp K hK hc => st_bin rfl ((ev 90 hb 3 (hp 3 kr)).trans (cond_yes hc)) (eval_const _) b_neq (hK _ _ (cond_yes hc).symm hG br)
     · refine g0 fun hp K hK => ?_; have e89 : b.eval (.tmp 89) = _ := ev 89 hb 2 (hp 2 kr); have e91 : b.eval (.tmp 91) = _ := ev 91 hb 4 (hp 4 kr); exact st_pick rfl (e89) (by first | (rw [e91]; exact pick_or) | (rw [show b.eval (Operand.tmp 91) = _ from eval_const _]; exact pick_or)) (hK _ _ rfl hG br)
     · exact mI hG fun hp => ev 92 hb 5 (hp 5 kr)
     · exact gI 6 93 ((!true) || (0 != 0)) false i93 hG fun hp K hK hc => st_move (.inl rfl) (e10) (hK _ _ (cond_yes hc).symm hG br)
     · exact gI 6 93 ((!true) || (0 != 0)) false i93 hG fun hp K hK hc => st_bin rfl (eval_const _) ((ev 94 hb 7 (hp 7 kr)).trans (cond_yes hc)) (b_add (IntWalk.i64_in _ (by omega))) (hK _ _ (cond_yes hc).symm hG br)
     · exact gI 6 93 ((!true) || (0 != 0)) false i93 hG fun hp K hK hc => st_conv rfl ((ev 95 hb 8 (hp 8 kr)).trans (cond_yes hc)) (cvu32 (by omega) _) (hK _ _ (cond_yes hc).symm hG br)
     · exact gI 6 93 ((!true) || (0 != 0)) false i93 hG fun hp K hK hc => st_field rfl (e11) kr (hK _ _ (cond_yes hc).symm hG br)
     · exact gI 6 93 ((!true) || (0 != 0)) false i93 hG fun hp K hK hc => st_load rfl ((ev 97 hb 10 (hp 10 kr)).trans (cond_yes hc)) (ld_cell 21 kr ((blk_cell hG.2 4).trans rfl)) (hK _ _ (cond_yes hc).symm hG br)
     · exact gI 6 93 ((!true) || (0 != 0)) false i93 hG fun hp K hK hc => st_conv rfl ((ev 98 hb 11 (hp 11 kr)).trans (cond_yes hc)) (cvi32 _ _) (hK _ _ (cond_yes hc).symm hG br)
     · exact gI 6 93 ((!true) || (0 != 0)) false i93 hG fun hp K hK hc => st_bin rfl ((ev 96 hb 9 (hp 9 kr)).trans (cond_yes hc)) ((ev 99 hb 12 (hp 12 kr)).trans (cond_yes hc)) (b_add (by rw [IntKind.wrap_u32]; omega)) (hK _ _ (cond_yes hc).symm hG br)
     · exact gI 6 93 ((!true) || (0 != 0)) false i93 hG fun hp K hK hc => st_move (.inl rfl) (e13) (hK _ _ (cond_yes hc).symm hG br)
     · exact gI 6 93 ((!true) || (0 != 0)) false i93 hG fun hp K hK hc => st_bin rfl ((ev 100 hb 13 (hp 13 kr)).trans (cond_yes hc)) ((ev 101 hb 14 (hp 14 kr)).trans (cond_yes hc)) b_neq (hK _ _ (cond_yes hc).symm hG br)
     · refine g0 fun hp K hK => ?_; have e93 : b.eval (.tmp 93) = _ := ev 93 hb 6 (hp 6 kr); have e102 : b.eval (.tmp 102) = _ := ev 102 hb 15 (hp 15 kr); exact st_pick rfl (e93) (by first | (rw [e102]; exact pick_or) | (rw [show b.eval (Operand.tmp 102) = _ from eval_const _]; exact pick_or)) (hK _ _ rfl hG br)
   intro vs W hG hp b hb
   have q16 : vs 16 = _ := hp 16 kd
   clear hp
   simp only [fillS, Nat.reduceAdd, Nat.zero_add, q16] at hb
   subst hb
   refine wpList_nil ?_
   clear q16
   refine HK27.out _ _ ?_; clear HK27
   have hc : (((!true) || (0 != 0)) || ((4096 + beg x far (at_ x y.f2)) != (4096 + beg x far (at_ x y.f2)))) = false := by
    have h1 : ((4096 + beg x far (at_ x y.f2)) != (4096 + beg x far (at_ x y.f2))) = false := by simp
    rw [h1]
    rfl
   rw [hc]
   clear hc
   apply wp_cond_false rfl
   apply wp_skip
   simp only [Exit.then]
   refine HK26.out _ _ ?_; clear HK26
   refine wp_seq_h fun K28 HK28 => ?_
   refine wp_listed (R := fun W W' => Below W.heap.size W W') 13 [.val (.slice (some adw) ws.length cw), .val (.slice (some adb) (x.length + 1) cb), .val (.int .i64 (i : Int)), .val (.pointer (some (adb.add i))), .val (.int .i64 (beg x far i)), .val (.int .i64 (q : Nat)), .val (.pointer (some (adw.add q))), .val (.int .u32 (wdI (turnI y.f1.f0) y.f1.f1 y.f1.f2 y.f1.f3 8)), .val (.tuple #[.agg #[.int .i64 (turnI y.f1.f0), .int .i64 y.f1.f1, .int .i64 y.f1.f2, .int .i64 y.f1.f3, .int .i32 8], .bool true]), .val (.tuple #[.agg #[.int .i64 (turnI y.f1.f0), .int .i64 y.f1.f1, .int .i64 y.f1.f2, .int .i64 y.f1.f3, .int .i32 8], .bool true]), .val (.agg #[.int .i64 (turnI y.f1.f0), .int .i64 y.f1.f1, .int .i64 y.f1.f2, .int .i64 y.f1.f3, .int .i32 8]), .val (.bool true), newSpec (.cells #[.int .i64 0, .int .i64 0, .int .i64 0, .int .i64 0, .int .i32 0] 32 (0, 0)) (gx + 1)] (fun W => Below W0.heap.size W0 W ∧ W.heap[gx]? = some (.cells #[.int .i64 44, .int .i64 0, .int .i64 0, .int .i64 0, .int .i32 (off x far i - 4)] 32 (0, 0))) kr hG ?_ ?_
   · intro vs W hG b hb
     have e4 : b.eval (.tmp 4) = .slice (some adw) ws.length cw := eo_ hb
     have e6 : b.eval (.tmp 6) = .slice (some adb) (x.length + 1) cb := eo_ hb
     have e9 : b.eval (.tmp 9) = .int .i64 (i : Int) := eo_ hb
     refine ai ?_ (ai ?_ (ai ?_ (ai ?_ (ai ?_ (ai ?_ (ai ?_ (ai ?_ (ai ?_ (ai ?_ (ai ?_ (ai ?_ (ai ?_ (trivial)))))))))))))
     · exact mI hG fun hp => e4
     · exact mI hG fun hp => e6
     · exact mI hG fun hp => e9
     · exact gv rfl hG fun hp K hK => st_index rfl (ev 106 hb 1 (hp 1 kr)) (ev 107 hb 2 (hp 2 kr)) (ix25n (Nat.lt_succ_of_lt hil) _) hK
     · exact gv rfl hG fun hp K hK => st_load rfl (ev 108 hb 3 (hp 3 kr)) (by obtain ⟨a', ha', hl'⟩ := ld_beg (Kd.C_below HB.out hG.1) (Nat.lt_succ_of_lt hil); rw [Option.some.inj ha']; exact ld_cell 3 kr hl') hK
     · exact gv rfl hG fun hp K hK => st_bin rfl (ev 109 hb 4 (hp 4 kr)) (eval_const _) (b_quo (by decide) (by rw [IntWalk.i64_quo _ _ (by omega)]; omega)) hK
     · exact gv rfl hG fun hp K hK => st_index rfl (ev 105 hb 0 (hp 0 kr)) (ev 110 hb 5 (hp 5 kr)) (ix39 hqv _) hK
     · exact gv rfl hG fun hp K hK => st_load rfl (ev 111 hb 6 (hp 6 kr)) (by obtain ⟨a', ha', hl'⟩ := ld_w (Kd.C_below HCW.out hG.1) hwv; rw [Option.some.inj ha']; exact ld_cell 42 kr hl') hK
     · refine g0 fun hp K hK => ?_; have e112 : b.eval (.tmp 112) = _ := ev 112 hb 7 (hp 7 kr); refine st_call rfl (by simp only [List.map_toArray, List.map_cons, List.map_nil, eval_const, e112]; try rfl) kr ?_; refine (d3D.calls 404 (wdI (turnI y.f1.f0) y.f1.f1 y.f1.f2 y.f1.f3 8) (turnI y.f1.f0) y.f1.f1 y.f1.f2 y.f1.f3 8 true _ hdv).mono ?_; rintro e w' ⟨rfl, hb'⟩; exact ⟨_, rfl, hK _ _ rfl ⟨below_step hG.1 hb', blk_below hG.2 hb'⟩ hb'⟩
     · exact mI hG fun hp => ev 113 hb 8 (hp 8 kr)
     · exact gv rfl hG fun hp K hK => st_extract rfl (ev 104 hb 9 (hp 9 kr)) kr hK
     · exact gv rfl hG fun hp K hK => st_extract rfl (ev 104 hb 9 (hp 9 kr)) kr hK
     · exact g0 fun hp K hK => st_alloc rfl (new32 _) (hK _ _ ⟨_, rfl, blk_new _ _, blk_lt hG.2⟩ ⟨hG.1.alloc hG.1.size _, blk_alloc hG.2 _⟩ (br.alloc (Nat.le_refl _) _))
   intro vs W hG hp b hb
   have q10 : vs 10 = _ := hp 10 kd
   have q11 : vs 11 = _ := hp 11 kd
   have q12 : ∃ gg, (vs 12) = .pointer (some ⟨gg, 0, none⟩) ∧ W.heap[gg]? = some (.cells #[.int .i64 0, .int .i64 0, .int .i64 0, .int .i64 0, .int .i32 0] 32 (0, 0)) ∧ gx + 1 ≤ gg := hp 12 kd
   clear hp
   simp only [fillS, Nat.reduceAdd, Nat.zero_add, q10, q11] at hb
   subst hb
   simp only [List.append_eq, List.cons_append, List.nil_append, List.drop_succ_cons, List.drop_zero]
   clear q10 q11
   obtain ⟨gy, hv, Agy, hgy⟩ := q12
   rw [hv]
   clear hv
   refine wpList_store_mid rfl 32 (.tmp 15) (.tmp 114) rfl gy 0 #[.int .i64 (turnI y.f1.f0), .int .i64 y.f1.f1, .int .i64 y.f1.f2, .int .i64 y.f1.f3, .int .i32 8] kr kr (by have h := blk_there Agy; exact h) kr kr ?_
   have hX1 := blk_puts (cs' := #[.int .i64 (turnI y.f1.f0), .int .i64 y.f1.f1, .int .i64 y.f1.f2, .int .i64 y.f1.f3, .int .i32 8]) Agy rfl
   have hX2 := blk_puts_far (l := #[.int .i64 (turnI y.f1.f0), .int .i64 y.f1.f1, .int .i64 y.f1.f2, .int .i64 y.f1.f3, .int .i32 8].toList) (o := 0) hG.2 (show gx ≠ gy by omega)
   have hG2 := And.intro (And.intro (below_sets #[.int .i64 (turnI y.f1.f0), .int .i64 y.f1.f1, .int .i64 y.f1.f2, .int .i64 y.f1.f3, .int .i32 8].toList 0 W0 W gy hG.1 (show W0.heap.size ≤ gy by omega)) hX2) hX1
   clear hX1 hX2
   clear Agy hG
   generalize W.setCells gy 0 #[.int .i64 (turnI y.f1.f0), .int .i64 y.f1.f1, .int .i64 y.f1.f2, .int .i64 y.f1.f3, .int .i32 8].toList = V at hG2 ⊢
   clear W
   refine wpList_plain rfl fun K' hK' => ?_
   refine st_move (v := .bool true) (.inr rfl) kr ?_
   refine hK' _ _ ?_
   clear hK'
   refine wpList_nil ?_
   simp only [Act.put, List.setIfInBounds_toArray, List.set_cons_succ, List.set_cons_zero]
   have hG := hG2
   clear hG2
   refine HK28.out _ _ ?_; clear HK28
   refine wp_seq_h fun K29 HK29 => ?_
   have ht1 : (turnI y.f1.f0 == y.f1.f0) = false := beq_eq_false_iff_ne.mpr hturn.2.2
   have ht2 : (y.f1.f2 != y.f1.f2) = false := by simp
   refine wp_drawn (R := fun W W' => Below W.heap.size W W') 45 [.val (.slice (some adf) x.length cf), .val (.int .i64 (i : Int)), .val (.pointer (some (adf.add i))), .val (.bool true), .val (.bool true), .val ((bif ((true) == true) then (.bool true) else undef)), .val ((bif ((true) == true) then (.bool false) else undef)), .val ((bif ((true) == true) then (.bool false) else undef)), .val ((bif ((false) == false) then (.pointer (some ⟨gy, 4, none⟩)) else undef)), .val ((bif ((false) == false) then (.int .i32 8) else undef)), .val ((bif ((false) == false) then (.bool false) else undef)), .val ((bif ((true) == true) then (.bool false) else undef)), .val ((bif ((true) == true) then (.bool false) else undef)), .val ((bif ((false) == false) then (.pointer (some ⟨gy, 0, none⟩)) else undef)), .val ((bif ((false) == false) then (.int .i64 (turnI y.f1.f0)) else undef)), .val ((bif ((false) == false) then (.slice (some ad) x.length cx) else undef)), .val ((bif ((false) == false) then (.int .i64 (i : Int)) else undef)), .val ((bif ((false) == false) then (.pointer (some (ad.add (i * 7)))) else undef)), .val ((bif ((false) == false) then (.pointer (some ((ad.add (i * 7)).add 1))) else undef)), .val ((bif ((false) == false) then (.pointer (some (((ad.add (i * 7)).add 1).add 0))) else undef)), .val ((bif ((false) == false) then (.int .i64 y.f1.f0) else undef)), .val ((bif ((false) == false) then (.bool false) else undef)), .val ((bif ((true) == true) then (.bool false) else undef)), .val ((bif ((true) == true) then (.bool false) else undef)), .val ((bif ((false) == false) then (.pointer (some ⟨gy, 2, none⟩)) else undef)), .val ((bif ((false) == false) then (.int .i64 y.f1.f2) else undef)), .val ((bif ((false) == false) then (.slice (some ad) x.length cx) else undef)), .val ((bif ((false) == false) then (.int .i64 (i : Int)) else undef)), .val ((bif ((false) == false) then (.pointer (some (ad.add (i * 7)))) else undef)), .val ((bif ((false) == false) then (.pointer (some ((ad.add (i * 7)).add 1))) else undef)), .val ((bif ((false) == false) then (.pointer (some (((ad.add (i * 7)).add 1).add 2))) else undef)), .val ((bif ((false) == false) then (.int .i64 y.f1.f2) else undef)), .val ((bif ((false) == false) then (.bool false) else undef)), .val ((bif ((true) == true) then (.bool false) else undef)), .val ((bif ((true) == true) then (.bool false) else undef)), .val ((bif ((false) == false) then (.pointer (some ⟨gx, 0, none⟩)) else undef)), .val ((bif ((false) == false) then (.int .i64 44) else undef)), .val ((bif ((false) == false) then (.bool false) else undef)), .val ((bif ((true) == true) then (.bool false) else undef)), .val ((bif ((true) == true) then (.bool false) else undef)), .val ((bif ((false) == false) then (.pointer (some ⟨gx, 1, none⟩)) else undef)), .val ((bif ((false) == false) then (.int .i64 0) else undef)), .val ((bif ((false) == false) then (.bool false) else undef)), .val ((bif ((true) == true) then (.bool false) else undef)), .val (.bool false)] (fun W => (Below W0.heap.size W0 W ∧ W.heap[gx]? = some (.cells #[.int .i64 44, .int .i64 0, .int .i64 0, .int .i64 0, .int .i32 (off x far i - 4)] 32 (0, 0))) ∧ W.heap[gy]? = some (.cells #[.int .i64 (turnI y.f1.f0), .int .i64 y.f1.f1, .int .i64 y.f1.f2, .int .i64 y.f1.f3, .int .i32 8] 32 (0, 0))) rfl kr ⟨⟨hG.1.1.drew, hG.1.2⟩, hG.2⟩ ?_ ?_
   · intro vs W hG b hb
     have i120 := ei_ 120 hb 4
     have i123 := ei_ 123 hb 7
     have i128 := ei_ 128 hb 12
     have i139 := ei_ 139 hb 23
     have i150 := ei_ 150 hb 34
     have i155 := ei_ 155 hb 39
     have e3 : b.eval (.tmp 3) = .slice (some ad) x.length cx := eo_ hb
     have e7 : b.eval (.tmp 7) = .slice (some adf) x.length cf := eo_ hb
     have e9 : b.eval (.tmp 9) = .int .i64 (i : Int) := eo_ hb
     have e11 : b.eval (.tmp 11) = .pointer (some ⟨gx, 0, none⟩) := eo_ hb
     have e15 : b.eval (.tmp 15) = .pointer (some ⟨gy, 0, none⟩) := eo_ hb
     have e16 : b.eval (.tmp 16) = .bool true := eo_ hb
     refine ai ?_ (ai ?_ (ai ?_ (ai ?_ (ai ?_ (ai ?_ (ai ?_ (ai ?_ (ai ?_ (ai ?_ (ai ?_ (ai ?_ (ai ?_ (ai ?_ (ai ?_ (ai ?_ (ai ?_ (ai ?_ (ai ?_ (ai ?_ (ai ?_ (ai ?_ (ai ?_ (ai ?_ (ai ?_ (ai ?_ (ai ?_ (ai ?_ (ai ?_ (ai ?_ (ai ?_ (ai ?_ (ai ?_ (ai ?_ (ai ?_ (ai ?_ (ai ?_ (ai ?_ (ai ?_ (ai ?_ (ai ?_ (ai ?_ (ai ?_ (ai ?_ (ai ?_ (trivial)))))))))))))))))))))))))))))))))))))))))))))
     · exact mI hG fun hp => e7
     · exact mI hG fun hp => e9
     · exact gv rfl hG fun hp K hK => st_index rfl (ev 116 hb 0 (hp 0 kr)) (ev 117 hb 1 (hp 1 kr)) (ix26 hil _) hK
     · exact gv rfl hG fun hp K hK => st_load rfl (ev 118 hb 2 (hp 2 kr)) (by obtain ⟨a', ha', hl'⟩ := ld_far (Kd.C_below HF.out hG.1.1) hil; rw [Option.some.inj ha']; rw [hfi] at hl'; exact ld_cell 4 kr hl') hK
     · exact mI hG fun hp => ev 119 hb 3 (hp 3 kr)
     · exact gI 4 120 true true i120 hG fun hp K hK hc => st_move (.inl rfl) (e16) (hK _ _ (cond_yes hc).symm hG br)
     · exact gI 4 120 true true i120 hG fun hp K hK hc => st_un rfl ((ev 121 hb 5 (hp 5 kr)).trans (cond_yes hc)) u_not (hK _ _ (cond_yes hc).symm hG br)
     · exact gI 4 120 true true i120 hG fun hp K hK hc => st_move (.inl rfl) ((ev 122 hb 6 (hp 6 kr)).trans (cond_yes hc)) (hK _ _ (cond_yes hc).symm hG br)
     · exact gI 7 123 false false i123 hG fun hp K hK hc => st_field rfl (e15) kr (hK _ _ (cond_yes hc).symm hG br)
     · exact gI 7 123 false false i123 hG fun hp K hK hc => st_load rfl ((ev 124 hb 8 (hp 8 kr)).trans (cond_yes hc)) (ld_cell 21 kr ((blk_cell hG.2 4).trans rfl)) (hK _ _ (cond_yes hc).symm hG br)
     · exact gI 7 123 false false i123 hG fun hp K hK hc => st_bin rfl ((ev 125 hb 9 (hp 9 kr)).trans (cond_yes hc)) (eval_const _) (b_neq.trans rfl) (hK _ _ (cond_yes hc).symm hG br)
     · refine gI 4 120 true true i120 hG fun hp K hK hc => ?_; have e126 : b.eval (.tmp 126) = _ := ev 126 hb 10 (hp 10 kr); exact st_pick rfl ((ev 123 hb 7 (hp 7 kr)).trans (cond_yes hc)) (by first | (rw [e126]; exact rfl) | (rw [show b.eval (Operand.tmp 126) = _ from eval_const _]; exact rfl)) (hK _ _ (cond_yes hc).symm hG br)
     · exact gI 4 120 true true i120 hG fun hp K hK hc => st_move (.inl rfl) ((ev 127 hb 11 (hp 11 kr)).trans (cond_yes hc)) (hK _ _ (cond_yes hc).symm hG br)
     · exact gI 12 128 false false i128 hG fun hp K hK hc => st_field rfl (e15) kr (hK _ _ (cond_yes hc).symm hG br)
     · exact gI 12 128 false false i128 hG fun hp K hK hc => st_load rfl ((ev 129 hb 13 (hp 13 kr)).trans (cond_yes hc)) (ld_cell 3 kr ((blk_cell hG.2 0).trans rfl)) (hK _ _ (cond_yes hc).symm hG br)
     · exact gI 12 128 false false i128 hG fun hp K hK hc => st_move (.inl rfl) (e3) (hK _ _ (cond_yes hc).symm hG br)
     · exact gI 12 128 false false i128 hG fun hp K hK hc => st_move (.inl rfl) (e9) (hK _ _ (cond_yes hc).symm hG br)
     · exact gI 12 128 false false i128 hG fun hp K hK hc => st_index rfl ((ev 131 hb 15 (hp 15 kr)).trans (cond_yes hc)) ((ev 132 hb 16 (hp 16 kr)).trans (cond_yes hc)) (ix23 hil _) (hK _ _ (cond_yes hc).symm hG br)
     · exact gI 12 128 false false i128 hG fun hp K hK hc => st_field rfl ((ev 133 hb 17 (hp 17 kr)).trans (cond_yes hc)) (fa34l _ _) (hK _ _ (cond_yes hc).symm hG br)
     · exact gI 12 128 false false i128 hG fun hp K hK hc => st_field rfl ((ev 134 hb 18 (hp 18 kr)).trans (cond_yes hc)) (fa32k _ _) (hK _ _ (cond_yes hc).symm hG br)
     · exact gI 12 128 false false i128 hG fun hp K hK hc => st_load rfl ((ev 135 hb 19 (hp 19 kr)).trans (cond_yes hc)) (by obtain ⟨a', ha', hl'⟩ := ld_fld (Kd.C_below HX.out hG.1.1) (q := 1) hil (by rw [hxy]; rfl); rw [Option.some.inj ha', Addr.add_add]; exact ld_cell 3 kr hl') (hK _ _ (cond_yes hc).symm hG br)
     · exact gI 12 128 false false i128 hG fun hp K hK hc => st_bin rfl ((ev 130 hb 14 (hp 14 kr)).trans (cond_yes hc)) ((ev 136 hb 20 (hp 20 kr)).trans (cond_yes hc)) (b_eql.trans (by rw [ht1])) (hK _ _ (cond_yes hc).symm hG br)
     · refine gI 4 120 true true i120 hG fun hp K hK hc => ?_; have e137 : b.eval (.tmp 137) = _ := ev 137 hb 21 (hp 21 kr); exact st_pick rfl ((ev 128 hb 12 (hp 12 kr)).trans (cond_yes hc)) (by first | (rw [e137]; exact rfl) | (rw [show b.eval (Operand.tmp 137) = _ from eval_const _]; exact rfl)) (hK _ _ (cond_yes hc).symm hG br)
     · exact gI 4 120 true true i120 hG fun hp K hK hc => st_move (.inl rfl) ((ev 138 hb 22 (hp 22 kr)).trans (cond_yes hc)) (hK _ _ (cond_yes hc).symm hG br)
     · exact gI 23 139 false false i139 hG fun hp K hK hc => st_field rfl (e15) kr (hK _ _ (cond_yes hc).symm hG br)
     · exact gI 23 139 false false i139 hG fun hp K hK hc => st_load rfl ((ev 140 hb 24 (hp 24 kr)).trans (cond_yes hc)) (ld_cell 3 kr ((blk_cell hG.2 2).trans rfl)) (hK _ _ (cond_yes hc).symm hG br)
     · exact gI 23 139 false false i139 hG fun hp K hK hc => st_move (.inl rfl) (e3) (hK _ _ (cond_yes hc).symm hG br)
     · exact gI 23 139 false false i139 hG fun hp K hK hc => st_move (.inl rfl) (e9) (hK _ _ (cond_yes hc).symm hG br)
     · exact gI 23 139 false false i139 hG fun hp K hK hc => st_index rfl ((ev 142 hb 26 (hp 26 kr)).trans (cond_yes hc)) ((ev 143 hb 27 (hp 27 kr)).trans (cond_yes hc)) (ix23 hil _) (hK _ _ (cond_yes hc).symm hG br)
     · exact gI 23 139 false false i139 hG fun hp K hK hc => st_field rfl ((ev 144 hb 28 (hp 28 kr)).trans (cond_yes hc)) (fa34l _ _) (hK _ _ (cond_yes hc).symm hG br)
     · exact gI 23 139 false false i139 hG fun hp K hK hc => st_field rfl ((ev 145 hb 29 (hp 29 kr)).trans (cond_yes hc)) (fa32m _ _) (hK _ _ (cond_yes hc).symm hG br)
     · exact gI 23 139 false false i139 hG fun hp K hK hc => st_load rfl ((ev 146 hb 30 (hp 30 kr)).trans (cond_yes hc)) (by obtain ⟨a', ha', hl'⟩ := ld_fld (Kd.C_below HX.out hG.1.1) (q := 3) hil (by rw [hxy]; rfl); rw [Option.some.inj ha', Addr.add_add]; exact ld_cell 3 kr hl') (hK _ _ (cond_yes hc).symm hG br)
     · exact gI 23 139 false false i139 hG fun hp K hK hc => st_bin rfl ((ev 141 hb 25 (hp 25 kr)).trans (cond_yes hc)) ((ev 147 hb 31 (hp 31 kr)).trans (cond_yes hc)) (b_neq.trans (by rw [ht2])) (hK _ _ (cond_yes hc).symm hG br)
     · refine gI 4 120 true true i120 hG fun hp K hK hc => ?_; have e148 : b.eval (.tmp 148) = _ := ev 148 hb 32 (hp 32 kr); exact st_pick rfl ((ev 139 hb 23 (hp 23 kr)).trans (cond_yes hc)) (by first | (rw [e148]; exact rfl) | (rw [show b.eval (Operand.tmp 148) = _ from eval_const _]; exact rfl)) (hK _ _ (cond_yes hc).symm hG br)
     · exact gI 4 120 true true i120 hG fun hp K hK hc => st_move (.inl rfl) ((ev 149 hb 33 (hp 33 kr)).trans (cond_yes hc)) (hK _ _ (cond_yes hc).symm hG br)
     · exact gI 34 150 false false i150 hG fun hp K hK hc => st_field rfl (e11) kr (hK _ _ (cond_yes hc).symm hG br)
     · exact gI 34 150 false false i150 hG fun hp K hK hc => st_load rfl ((ev 151 hb 35 (hp 35 kr)).trans (cond_yes hc)) (ld_cell 3 kr ((blk_cell hG.1.2 0).trans rfl)) (hK _ _ (cond_yes hc).symm hG br)
     · exact gI 34 150 false false i150 hG fun hp K hK hc => st_bin rfl ((ev 152 hb 36 (hp 36 kr)).trans (cond_yes hc)) (eval_const _) (b_neq.trans rfl) (hK _ _ (cond_yes hc).symm hG br)
     · refine gI 4 120 true true i120 hG fun hp K hK hc => ?_; have e153 : b.eval (.tmp 153) = _ := ev 153 hb 37 (hp 37 kr); exact st_pick rfl ((ev 150 hb 34 (hp 34 kr)).trans (cond_yes hc)) (by first | (rw [e153]; exact rfl) | (rw [show b.eval (Operand.tmp 153) = _ from eval_const _]; exact rfl)) (hK _ _ (cond_yes hc).symm hG br)
     · exact gI 4 120 true true i120 hG fun hp K hK hc => st_move (.inl rfl) ((ev 154 hb 38 (hp 38 kr)).trans (cond_yes hc)) (hK _ _ (cond_yes hc).symm hG br)
     · exact gI 39 155 false false i155 hG fun hp K hK hc => st_field rfl (e11) kr (hK _ _ (cond_yes hc).symm hG br)
     · exact gI 39 155 false false i155 hG fun hp K hK hc => st_load rfl ((ev 156 hb 40 (hp 40 kr)).trans (cond_yes hc)) (ld_cell 3 kr ((blk_cell hG.1.2 1).trans rfl)) (hK _ _ (cond_yes hc).symm hG br)
     · exact gI 39 155 false false i155 hG fun hp K hK hc => st_bin rfl ((ev 157 hb 41 (hp 41 kr)).trans (cond_yes hc)) (eval_const _) (b_neq.trans rfl) (hK _ _ (cond_yes hc).symm hG br)
     · refine gI 4 120 true true i120 hG fun hp K hK hc => ?_; have e158 : b.eval (.tmp 158) = _ := ev 158 hb 42 (hp 42 kr); exact st_pick rfl ((ev 155 hb 39 (hp 39 kr)).trans (cond_yes hc)) (by first | (rw [e158]; exact rfl) | (rw [show b.eval (Operand.tmp 158) = _ from eval_const _]; exact rfl)) (hK _ _ (cond_yes hc).symm hG br)
     · refine g0 fun hp K hK => ?_; have e120 : b.eval (.tmp 120) = _ := ev 120 hb 4 (hp 4 kr); have e159 : b.eval (.tmp 159) = _ := ev 159 hb 43 (hp 43 kr); exact st_pick rfl (e120) (by first | (rw [e159]; exact rfl) | (rw [show b.eval (Operand.tmp 159) = _ from eval_const _]; exact rfl)) (hK _ _ rfl hG br)
   intro vs W hG hp b hb
   have q44 : vs 44 = _ := hp 44 kd
   clear hp
   simp only [fillS, Nat.reduceAdd, Nat.zero_add, q44] at hb
   subst hb
   refine wpList_nil ?_
   clear q44
   refine HK29.out _ _ ?_; clear HK29
   apply wp_cond_false rfl
   apply wp_skip
   simp only [Exit.inBlock, Exit.then, ↓reduceIte]
   replace hG := hG.1.1
   refine HK16.out _ _ ?_; clear HK16
   try clear hql
   try clear hturn
   try clear hokv
   try clear hwv
   try clear hoky
   try clear hwy
   try clear hqv
   try clear hdy
   try clear hdv
   try clear ht1
   try clear ht2
   try clear hop
   clear hbq hlab hof hbi hal hba hoi hNn hfi hk2 hxm hxy
   have HG := Lib.hid hG
   have Hil := Lib.hid hil
   clear hG hil hi
   go_wp2
   exact ⟨loop_frame kr, ⟨i + 1, by show Value.int .i64 _ = _; simp, Hil.out, HG.out⟩, Msr.lt (by have := Hil.out; omega)⟩
 obtain ⟨hqv, hop, hoky, hwy⟩ := hnear hfi
 clear hnear hfar
 have hdy := (Pure.rdec_back _ _ _ _ _ hoky (by omega) (by omega)).1
 apply wp_skip
 simp only [Exit.then]
 refine HK20.out _ _ ?_; clear HK20
 refine wp_seq_h fun K30 HK30 => ?_
 refine wp_seq_h fun K31 HK31 => ?_
 refine wp_listed (R := fun W W' => Below W.heap.size W W') 5 [.val (.int .i64 (beg x far i)), .val (.int .i64 (q : Nat)), .val (.slice Aw ws.length cw), .val (.int .i64 ((ws.length : Nat) : Int)), .val (.bool (decide (((ws.length : Nat) : Int) ≤ (q : Nat))))] (fun W => Below W0.heap.size W0 W) kr hG ?_ ?_
 · intro vs W hG b hb
   have e4 : b.eval (.tmp 4) = .slice Aw ws.length cw := eo_ hb
   have e10 : b.eval (.tmp 10) = .int .i64 (beg x far i) := eo_ hb
   refine ai ?_ (ai ?_ (ai ?_ (ai ?_ (ai ?_ (trivial)))))
   · exact mI hG fun hp => e10
   · exact gv rfl hG fun hp K hK => st_bin rfl (ev 63 hb 0 (hp 0 kr)) (eval_const _) (b_quo (by decide) (by rw [IntWalk.i64_quo _ _ (by omega)]; omega)) hK
   · exact mI hG fun hp => e4
   · refine g0 fun hp K hK => ?_; have e65 : b.eval (.tmp 65) = _ := ev 65 hb 2 (hp 2 kr); exact st_builtin rfl (by simp only [List.map_toArray, List.map_cons, List.map_nil, eval_const, e65]; try rfl) (fun cs => len39 cs _) (hK _ _ rfl hG br)
   · exact gv rfl hG fun hp K hK => st_bin rfl (ev 64 hb 1 (hp 1 kr)) (ev 66 hb 3 (hp 3 kr)) b_geq hK
 intro vs W hG hp b hb
 have q4 : vs 4 = _ := hp 4 kd
 clear hp
 simp only [fillS, Nat.reduceAdd, Nat.zero_add, q4] at hb
 subst hb
 refine wpList_nil ?_
 clear q4
 refine HK31.out _ _ ?_; clear HK31
 have hc : (decide (((ws.length : Nat) : Int) ≤ (q : Nat))) = false := decide_eq_false (by omega)
 rw [hc]
 clear hc
 apply wp_cond_false rfl
 apply wp_skip
 simp only [Exit.then]
 refine HK30.out _ _ ?_; clear HK30
 obtain ⟨adw, hAw, -⟩ := ld_w HCW.out hwy
 subst hAw
 refine wp_seq_h fun K32 HK32 => ?_
 refine wp_listed (R := fun W W' => Below W.heap.size W W') 10 [.val (.slice (some adw) ws.length cw), .val (.int .i64 (beg x far i)), .val (.int .i64 (q : Nat)), .val (.pointer (some (adw.add q))), .val (.int .u32 (wdI y.f1.f0 y.f1.f1 y.f1.f2 y.f1.f3 (off x far i))), .val (.tuple #[.agg #[.int .i64 y.f1.f0, .int .i64 y.f1.f1, .int .i64 y.f1.f2, .int .i64 y.f1.f3, .int .i32 (off x far i)], .bool true]), .val (.tuple #[.agg #[.int .i64 y.f1.f0, .int .i64 y.f1.f1, .int .i64 y.f1.f2, .int .i64 y.f1.f3, .int .i32 (off x far i)], .bool true]), .val (.agg #[.int .i64 y.f1.f0, .int .i64 y.f1.f1, .int .i64 y.f1.f2, .int .i64 y.f1.f3, .int .i32 (off x far i)]), .val (.bool true), newSpec (.cells #[.int .i64 0, .int .i64 0, .int .i64 0, .int .i64 0, .int .i32 0] 32 (0, 0)) (W0.heap.size)] (fun W => Below W0.heap.size W0 W) kr hG ?_ ?_
 · intro vs W hG b hb
   have e4 : b.eval (.tmp 4) = .slice (some adw) ws.length cw := eo_ hb
   have e10 : b.eval (.tmp 10) = .int .i64 (beg x far i) := eo_ hb
   refine ai ?_ (ai ?_ (ai ?_ (ai ?_ (ai ?_ (ai ?_ (ai ?_ (ai ?_ (ai ?_ (ai ?_ (trivial))))))))))
   · exact mI hG fun hp => e4
   · exact mI hG fun hp => e10
   · exact gv rfl hG fun hp K hK => st_bin rfl (ev 70 hb 1 (hp 1 kr)) (eval_const _) (b_quo (by decide) (by rw [IntWalk.i64_quo _ _ (by omega)]; omega)) hK
   · exact gv rfl hG fun hp K hK => st_index rfl (ev 69 hb 0 (hp 0 kr)) (ev 71 hb 2 (hp 2 kr)) (ix39 hqv _) hK
   · exact gv rfl hG fun hp K hK => st_load rfl (ev 72 hb 3 (hp 3 kr)) (by obtain ⟨a', ha', hl'⟩ := ld_w (Kd.C_below HCW.out hG) hwy; rw [Option.some.inj ha']; exact ld_cell 42 kr hl') hK
   · refine g0 fun hp K hK => ?_; have e73 : b.eval (.tmp 73) = _ := ev 73 hb 4 (hp 4 kr); refine st_call rfl (by simp only [List.map_toArray, List.map_cons, List.map_nil, eval_const, e73]; try rfl) kr ?_; refine (d3D.calls 404 (wdI y.f1.f0 y.f1.f1 y.f1.f2 y.f1.f3 (off x far i)) y.f1.f0 y.f1.f1 y.f1.f2 y.f1.f3 (off x far i) true _ hdy).mono ?_; rintro e w' ⟨rfl, hb'⟩; exact ⟨_, rfl, hK _ _ rfl (below_step hG hb') hb'⟩
   · exact mI hG fun hp => ev 74 hb 5 (hp 5 kr)
   · exact gv rfl hG fun hp K hK => st_extract rfl (ev 68 hb 6 (hp 6 kr)) kr hK
   · exact gv rfl hG fun hp K hK => st_extract rfl (ev 68 hb 6 (hp 6 kr)) kr hK
   · exact g0 fun hp K hK => st_alloc rfl (new32 _) (hK _ _ ⟨_, rfl, blk_new _ _, hG.size⟩ (hG.alloc hG.size _) (br.alloc (Nat.le_refl _) _))
 intro vs W hG hp b hb
 have q7 : vs 7 = _ := hp 7 kd
 have q8 : vs 8 = _ := hp 8 kd
 have q9 : ∃ gg, (vs 9) = .pointer (some ⟨gg, 0, none⟩) ∧ W.heap[gg]? = some (.cells #[.int .i64 0, .int .i64 0, .int .i64 0, .int .i64 0, .int .i32 0] 32 (0, 0)) ∧ W0.heap.size ≤ gg := hp 9 kd
 clear hp
 simp only [fillS, Nat.reduceAdd, Nat.zero_add, q7, q8] at hb
 subst hb
 simp only [List.append_eq, List.cons_append, List.nil_append, List.drop_succ_cons, List.drop_zero]
 clear q7 q8
 obtain ⟨gx, hv, Agx, hgx⟩ := q9
 rw [hv]
 clear hv
 refine wpList_store_mid rfl 32 (.tmp 11) (.tmp 75) rfl gx 0 #[.int .i64 y.f1.f0, .int .i64 y.f1.f1, .int .i64 y.f1.f2, .int .i64 y.f1.f3, .int .i32 (off x far i)] kr kr (by have h := blk_there Agx; exact h) kr kr ?_
 have hX1 := blk_puts (cs' := #[.int .i64 y.f1.f0, .int .i64 y.f1.f1, .int .i64 y.f1.f2, .int .i64 y.f1.f3, .int .i32 (off x far i)]) Agx rfl
 have hG2 := And.intro (below_sets #[.int .i64 y.f1.f0, .int .i64 y.f1.f1, .int .i64 y.f1.f2, .int .i64 y.f1.f3, .int .i32 (off x far i)].toList 0 W0 W gx hG hgx) hX1
 clear hX1
 clear Agx hG
 generalize W.setCells gx 0 #[.int .i64 y.f1.f0, .int .i64 y.f1.f1, .int .i64 y.f1.f2, .int .i64 y.f1.f3, .int .i32 (off x far i)].toList = V at hG2 ⊢
 clear W
 refine wpList_plain rfl fun K' hK' => ?_
 refine st_move (v := .bool true) (.inr rfl) kr ?_
 refine hK' _ _ ?_
 clear hK'
 refine wpList_nil ?_
 simp only [Act.put, List.setIfInBounds_toArray, List.set_cons_succ, List.set_cons_zero]
 have hG := hG2
 clear hG2
 refine HK32.out _ _ ?_; clear HK32
 refine wp_seq_h fun K33 HK33 => ?_
 refine wp_listed (R := fun W W' => Below W.heap.size W W') 12 [.val (.slice (some ad) x.length cx), .val (.slice (some ad) x.length cx), .val (.int .i64 (i : Int)), .val (.pointer (some (ad.add (i * 7)))), .val (.pointer (some ((ad.add (i * 7)).add 6))), .val (.int .i64 y.f2), .val (.tuple #[.int .u32 (4096 + beg x far (at_ x y.f2)), .int .i64 0]), .val (.tuple #[.int .u32 (4096 + beg x far (at_ x y.f2)), .int .i64 0]), .val (.int .u32 (4096 + beg x far (at_ x y.f2))), .val (.int .i64 0), .val (.int .u32 (4096 + beg x far (at_ x y.f2))), .val (.int .i64 0)] (fun W => Below W0.heap.size W0 W ∧ W.heap[gx]? = some (.cells #[.int .i64 y.f1.f0, .int .i64 y.f1.f1, .int .i64 y.f1.f2, .int .i64 y.f1.f3, .int .i32 (off x far i)] 32 (0, 0))) kr hG ?_ ?_
 · intro vs W hG b hb
   have e3 : b.eval (.tmp 3) = .slice (some ad) x.length cx := eo_ hb
   have e9 : b.eval (.tmp 9) = .int .i64 (i : Int) := eo_ hb
   refine ai ?_ (ai ?_ (ai ?_ (ai ?_ (ai ?_ (ai ?_ (ai ?_ (ai ?_ (ai ?_ (ai ?_ (ai ?_ (ai ?_ (trivial))))))))))))
   · exact mI hG fun hp => e3
   · exact mI hG fun hp => e3
   · exact mI hG fun hp => e9
   · exact gv rfl hG fun hp K hK => st_index rfl (ev 79 hb 1 (hp 1 kr)) (ev 80 hb 2 (hp 2 kr)) (ix23 hil _) hK
   · exact gv rfl hG fun hp K hK => st_field rfl (ev 81 hb 3 (hp 3 kr)) (fa34 _ _) hK
   · exact gv rfl hG fun hp K hK => st_load rfl (ev 82 hb 4 (hp 4 kr)) (by obtain ⟨a', ha', hl'⟩ := ld_fld (Kd.C_below HX.out hG.1) (q := 6) hil (by rw [hxy]; rfl); rw [Option.some.inj ha']; exact ld_cell 3 kr hl') hK
   · refine g0 fun hp K hK => ?_; have e78 : b.eval (.tmp 78) = _ := ev 78 hb 0 (hp 0 kr); have e83 : b.eval (.tmp 83) = _ := ev 83 hb 5 (hp 5 kr); refine st_call rfl (by simp only [List.map_toArray, List.map_cons, List.map_nil, eval_const, e78, e83]; try rfl) kr ?_; refine (where_good (some ad) cx x 4096 y.f2 _ (by decide) (by decide) HN.out (fun x hx => (HO.out x hx).1) (fun x hx => (HO.out x hx).2) (Kd.C_below HX.out hG.1) ho (HO.out _ hxm).1 hlab).mono ?_; rintro e w' ⟨far', rfl, hgf', hb'⟩; obtain rfl : far' = far := far_one hgf'.1 hgf'.2 HGF.out.1 HGF.out.2; exact ⟨_, rfl, hK _ _ rfl ⟨below_step hG.1 hb', blk_below hG.2 hb'⟩ hb'⟩
   · exact mI hG fun hp => ev 84 hb 6 (hp 6 kr)
   · exact gv rfl hG fun hp K hK => st_extract rfl (ev 77 hb 7 (hp 7 kr)) kr hK
   · exact gv rfl hG fun hp K hK => st_extract rfl (ev 77 hb 7 (hp 7 kr)) kr hK
   · exact gv rfl hG fun hp K hK => st_move (.inr rfl) (ev 85 hb 8 (hp 8 kr)) hK
   · exact gv rfl hG fun hp K hK => st_move (.inr rfl) (ev 86 hb 9 (hp 9 kr)) hK
 intro vs W hG hp b hb
 have q10 : vs 10 = _ := hp 10 kd
 have q11 : vs 11 = _ := hp 11 kd
 clear hp
 simp only [fillS, Nat.reduceAdd, Nat.zero_add, q10, q11] at hb
 subst hb
 refine wpList_nil ?_
 clear q10 q11
 refine HK33.out _ _ ?_; clear HK33
 refine wp_seq_h fun K34 HK34 => ?_
 refine wp_seq_h fun K35 HK35 => ?_
 refine wp_listed (R := fun W W' => Below W.heap.size W W') 17 [.val (.bool true), .val (.bool (!true)), .val (.bool (!true)), .val ((bif ((!true) == false) then (.int .i64 0) else undef)), .val ((bif ((!true) == false) then (.bool (0 != 0)) else undef)), .val (.bool ((!true) || (0 != 0))), .val (.bool ((!true) || (0 != 0))), .val ((bif (((!true) || (0 != 0)) == false) then (.int .i64 (beg x far i)) else undef)), .val ((bif (((!true) || (0 != 0)) == false) then (.int .i64 (4096 + (beg x far i))) else undef)), .val ((bif (((!true) || (0 != 0)) == false) then (.int .u32 (4096 + (beg x far i))) else undef)), .val ((bif (((!true) || (0 != 0)) == false) then (.pointer (some ⟨gx, 4, none⟩)) else undef)), .val ((bif (((!true) || (0 != 0)) == false) then (.int .i32 (off x far i)) else undef)), .val ((bif (((!true) || (0 != 0)) == false) then (.int .u32 ((off x far i) % 4294967296)) else undef)), .val ((bif (((!true) || (0 != 0)) == false) then (.int .u32 (4096 + beg x far (at_ x y.f2))) else undef)), .val ((bif (((!true) || (0 != 0)) == false) then (.int .u32 (4096 + beg x far (at_ x y.f2))) else undef)), .val ((bif (((!true) || (0 != 0)) == false) then (.bool ((4096 + beg x far (at_ x y.f2)) != (4096 + beg x far (at_ x y.f2)))) else undef)), .val (.bool (((!true) || (0 != 0)) || ((4096 + beg x far (at_ x y.f2)) != (4096 + beg x far (at_ x y.f2)))))] (fun W => Below W0.heap.size W0 W ∧ W.heap[gx]? = some (.cells #[.int .i64 y.f1.f0, .int .i64 y.f1.f1, .int .i64 y.f1.f2, .int .i64 y.f1.f3, .int .i32 (off x far i)] 32 (0, 0))) kr hG ?_ ?_
 · intro vs W hG b hb
   have i93 := ei_ 93 hb 6
   have e10 : b.eval (.tmp 10) = .int .i64 (beg x far i) := eo_ hb
   have e11 : b.eval (.tmp 11) = .pointer (some ⟨gx, 0, none⟩) := eo_ hb
   have e12 : b.eval (.tmp 12) = .bool true := eo_ hb
   have e13 : b.eval (.tmp 13) = .int .u32 (4096 + beg x far (at_ x y.f2)) := eo_ hb
   have e14 : b.eval (.tmp 14) = .int .i64 0 := eo_ hb
   refine ai ?_ (ai ?_ (ai ?_ (ai ?_ (ai ?_ (ai ?_ (ai ?_ (ai ?_ (ai ?_ (ai ?_ (ai ?_ (ai ?_ (ai ?_ (ai ?_ (ai ?_ (ai ?_ (ai ?_ (trivial)))))))))))))))))
   · exact mI hG fun hp => e12
   · exact gv rfl hG fun hp K hK => st_un rfl (ev 87 hb 0 (hp 0 kr)) u_not hK
   · exact mI hG fun hp => ev 88 hb 1 (hp 1 kr)
   · exact gI 2 89 (!true) false (ei_ 89 hb 2) hG fun hp K hK hc => st_move (.inl rfl) (e14) (hK _ _ (cond_yes hc).symm hG br)
   · exact gI 2 89 (!true) false (ei_ 89 hb 2) hG fun hp K hK hc => st_bin rfl ((ev 90 hb 3 (hp 3 kr)).trans (cond_yes hc)) (eval_const _) b_neq (hK _ _ (cond_yes hc).symm hG br)
   · refine g0 fun hp K hK => ?_; have e89 : b.eval (.tmp 89) = _ := ev 89 hb 2 (hp 2 kr); have e91 : b.eval (.tmp 91) = _ := ev 91 hb 4 (hp 4 kr); exact st_pick rfl (e89) (by first | (rw [e91]; exact pick_or) | (rw [show b.eval (Operand.tmp 91) = _ from eval_const _]; exact pick_or)) (hK _ _ rfl hG br)
   · exact mI hG fun hp => ev 92 hb 5 (hp 5 kr)
   · exact gI 6 93 ((!true) || (0 != 0)) false i93 hG fun hp K hK hc => st_move (.inl rfl) (e10) (hK _ _ (cond_yes hc).symm hG br)
   · exact gI 6 93 ((!true) || (0 != 0)) false i93 hG fun hp K hK hc => st_bin rfl (eval_const _) ((ev 94 hb 7 (hp 7 kr)).trans (cond_yes hc)) (b_add (IntWalk.i64_in _ (by omega))) (hK _ _ (cond_yes hc).symm hG br)
   · exact gI 6 93 ((!true) || (0 != 0)) false i93 hG fun hp K hK hc => st_conv rfl ((ev 95 hb 8 (hp 8 kr)).trans (cond_yes hc)) (cvu32 (by omega) _) (hK _ _ (cond_yes hc).symm hG br)
   · exact gI 6 93 ((!true) || (0 != 0)) false i93 hG fun hp K hK hc => st_field rfl (e11) kr (hK _ _ (cond_yes hc).symm hG br)
   · exact gI 6 93 ((!true) || (0 != 0)) false i93 hG fun hp K hK hc => st_load rfl ((ev 97 hb 10 (hp 10 kr)).trans (cond_yes hc)) (ld_cell 21 kr ((blk_cell hG.2 4).trans rfl)) (hK _ _ (cond_yes hc).symm hG br)
   · exact gI 6 93 ((!true) || (0 != 0)) false i93 hG fun hp K hK hc => st_conv rfl ((ev 98 hb 11 (hp 11 kr)).trans (cond_yes hc)) (cvi32 _ _) (hK _ _ (cond_yes hc).symm hG br)
   · exact gI 6 93 ((!true) || (0 != 0)) false i93 hG fun hp K hK hc => st_bin rfl ((ev 96 hb 9 (hp 9 kr)).trans (cond_yes hc)) ((ev 99 hb 12 (hp 12 kr)).trans (cond_yes hc)) (b_add (by rw [IntKind.wrap_u32]; omega)) (hK _ _ (cond_yes hc).symm hG br)
   · exact gI 6 93 ((!true) || (0 != 0)) false i93 hG fun hp K hK hc => st_move (.inl rfl) (e13) (hK _ _ (cond_yes hc).symm hG br)
   · exact gI 6 93 ((!true) || (0 != 0)) false i93 hG fun hp K hK hc => st_bin rfl ((ev 100 hb 13 (hp 13 kr)).trans (cond_yes hc)) ((ev 101 hb 14 (hp 14 kr)).trans (cond_yes hc)) b_neq (hK _ _ (cond_yes hc).symm hG br)
   · refine g0 fun hp K hK => ?_; have e93 : b.eval (.tmp 93) = _ := ev 93 hb 6 (hp 6 kr); have e102 : b.eval (.tmp 102) = _ := ev 102 hb 15 (hp 15 kr); exact st_pick rfl (e93) (by first | (rw [e102]; exact pick_or) | (rw [show b.eval (Operand.tmp 102) = _ from eval_const _]; exact pick_or)) (hK _ _ rfl hG br)
 intro vs W hG hp b hb
 have q16 : vs 16 = _ := hp 16 kd
 clear hp
 simp only [fillS, Nat.reduceAdd, Nat.zero_add, q16] at hb
 subst hb
 refine wpList_nil ?_
 clear q16
 refine HK35.out _ _ ?_; clear HK35
 have hc : (((!true) || (0 != 0)) || ((4096 + beg x far (at_ x y.f2)) != (4096 + beg x far (at_ x y.f2)))) = false := by
  have h1 : ((4096 + beg x far (at_ x y.f2)) != (4096 + beg x far (at_ x y.f2))) = false := by simp
  rw [h1]
  rfl
 rw [hc]
 clear hc
 apply wp_cond_false rfl
 apply wp_skip
 simp only [Exit.then]
 refine HK34.out _ _ ?_; clear HK34
 refine wp_seq_h fun K36 HK36 => ?_
 refine wp_listed (R := fun W W' => Below W.heap.size W W') 13 [.val (.slice (some adw) ws.length cw), .val (.slice (some adb) (x.length + 1) cb), .val (.int .i64 (i : Int)), .val (.pointer (some (adb.add i))), .val (.int .i64 (beg x far i)), .val (.int .i64 (q : Nat)), .val (.pointer (some (adw.add q))), .val (.int .u32 (wdI y.f1.f0 y.f1.f1 y.f1.f2 y.f1.f3 (off x far i))), .val (.tuple #[.agg #[.int .i64 y.f1.f0, .int .i64 y.f1.f1, .int .i64 y.f1.f2, .int .i64 y.f1.f3, .int .i32 (off x far i)], .bool true]), .val (.tuple #[.agg #[.int .i64 y.f1.f0, .int .i64 y.f1.f1, .int .i64 y.f1.f2, .int .i64 y.f1.f3, .int .i32 (off x far i)], .bool true]), .val (.agg #[.int .i64 y.f1.f0, .int .i64 y.f1.f1, .int .i64 y.f1.f2, .int .i64 y.f1.f3, .int .i32 (off x far i)]), .val (.bool true), newSpec (.cells #[.int .i64 0, .int .i64 0, .int .i64 0, .int .i64 0, .int .i32 0] 32 (0, 0)) (gx + 1)] (fun W => Below W0.heap.size W0 W ∧ W.heap[gx]? = some (.cells #[.int .i64 y.f1.f0, .int .i64 y.f1.f1, .int .i64 y.f1.f2, .int .i64 y.f1.f3, .int .i32 (off x far i)] 32 (0, 0))) kr hG ?_ ?_
 · intro vs W hG b hb
   have e4 : b.eval (.tmp 4) = .slice (some adw) ws.length cw := eo_ hb
   have e6 : b.eval (.tmp 6) = .slice (some adb) (x.length + 1) cb := eo_ hb
   have e9 : b.eval (.tmp 9) = .int .i64 (i : Int) := eo_ hb
   refine ai ?_ (ai ?_ (ai ?_ (ai ?_ (ai ?_ (ai ?_ (ai ?_ (ai ?_ (ai ?_ (ai ?_ (ai ?_ (ai ?_ (ai ?_ (trivial)))))))))))))
   · exact mI hG fun hp => e4
   · exact mI hG fun hp => e6
   · exact mI hG fun hp => e9
   · exact gv rfl hG fun hp K hK => st_index rfl (ev 106 hb 1 (hp 1 kr)) (ev 107 hb 2 (hp 2 kr)) (ix25n (Nat.lt_succ_of_lt hil) _) hK
   · exact gv rfl hG fun hp K hK => st_load rfl (ev 108 hb 3 (hp 3 kr)) (by obtain ⟨a', ha', hl'⟩ := ld_beg (Kd.C_below HB.out hG.1) (Nat.lt_succ_of_lt hil); rw [Option.some.inj ha']; exact ld_cell 3 kr hl') hK
   · exact gv rfl hG fun hp K hK => st_bin rfl (ev 109 hb 4 (hp 4 kr)) (eval_const _) (b_quo (by decide) (by rw [IntWalk.i64_quo _ _ (by omega)]; omega)) hK
   · exact gv rfl hG fun hp K hK => st_index rfl (ev 105 hb 0 (hp 0 kr)) (ev 110 hb 5 (hp 5 kr)) (ix39 hqv _) hK
   · exact gv rfl hG fun hp K hK => st_load rfl (ev 111 hb 6 (hp 6 kr)) (by obtain ⟨a', ha', hl'⟩ := ld_w (Kd.C_below HCW.out hG.1) hwy; rw [Option.some.inj ha']; exact ld_cell 42 kr hl') hK
   · refine g0 fun hp K hK => ?_; have e112 : b.eval (.tmp 112) = _ := ev 112 hb 7 (hp 7 kr); refine st_call rfl (by simp only [List.map_toArray, List.map_cons, List.map_nil, eval_const, e112]; try rfl) kr ?_; refine (d3D.calls 404 (wdI y.f1.f0 y.f1.f1 y.f1.f2 y.f1.f3 (off x far i)) y.f1.f0 y.f1.f1 y.f1.f2 y.f1.f3 (off x far i) true _ hdy).mono ?_; rintro e w' ⟨rfl, hb'⟩; exact ⟨_, rfl, hK _ _ rfl ⟨below_step hG.1 hb', blk_below hG.2 hb'⟩ hb'⟩
   · exact mI hG fun hp => ev 113 hb 8 (hp 8 kr)
   · exact gv rfl hG fun hp K hK => st_extract rfl (ev 104 hb 9 (hp 9 kr)) kr hK
   · exact gv rfl hG fun hp K hK => st_extract rfl (ev 104 hb 9 (hp 9 kr)) kr hK
   · exact g0 fun hp K hK => st_alloc rfl (new32 _) (hK _ _ ⟨_, rfl, blk_new _ _, blk_lt hG.2⟩ ⟨hG.1.alloc hG.1.size _, blk_alloc hG.2 _⟩ (br.alloc (Nat.le_refl _) _))
 intro vs W hG hp b hb
 have q10 : vs 10 = _ := hp 10 kd
 have q11 : vs 11 = _ := hp 11 kd
 have q12 : ∃ gg, (vs 12) = .pointer (some ⟨gg, 0, none⟩) ∧ W.heap[gg]? = some (.cells #[.int .i64 0, .int .i64 0, .int .i64 0, .int .i64 0, .int .i32 0] 32 (0, 0)) ∧ gx + 1 ≤ gg := hp 12 kd
 clear hp
 simp only [fillS, Nat.reduceAdd, Nat.zero_add, q10, q11] at hb
 subst hb
 simp only [List.append_eq, List.cons_append, List.nil_append, List.drop_succ_cons, List.drop_zero]
 clear q10 q11
 obtain ⟨gy, hv, Agy, hgy⟩ := q12
 rw [hv]
 clear hv
 refine wpList_store_mid rfl 32 (.tmp 15) (.tmp 114) rfl gy 0 #[.int .i64 y.f1.f0, .int .i64 y.f1.f1, .int .i64 y.f1.f2, .int .i64 y.f1.f3, .int .i32 (off x far i)] kr kr (by have h := blk_there Agy; exact h) kr kr ?_
 have hX1 := blk_puts (cs' := #[.int .i64 y.f1.f0, .int .i64 y.f1.f1, .int .i64 y.f1.f2, .int .i64 y.f1.f3, .int .i32 (off x far i)]) Agy rfl
 have hX2 := blk_puts_far (l := #[.int .i64 y.f1.f0, .int .i64 y.f1.f1, .int .i64 y.f1.f2, .int .i64 y.f1.f3, .int .i32 (off x far i)].toList) (o := 0) hG.2 (show gx ≠ gy by omega)
 have hG2 := And.intro (And.intro (below_sets #[.int .i64 y.f1.f0, .int .i64 y.f1.f1, .int .i64 y.f1.f2, .int .i64 y.f1.f3, .int .i32 (off x far i)].toList 0 W0 W gy hG.1 (show W0.heap.size ≤ gy by omega)) hX2) hX1
 clear hX1 hX2
 clear Agy hG
 generalize W.setCells gy 0 #[.int .i64 y.f1.f0, .int .i64 y.f1.f1, .int .i64 y.f1.f2, .int .i64 y.f1.f3, .int .i32 (off x far i)].toList = V at hG2 ⊢
 clear W
 refine wpList_plain rfl fun K' hK' => ?_
 refine st_move (v := .bool true) (.inr rfl) kr ?_
 refine hK' _ _ ?_
 clear hK'
 refine wpList_nil ?_
 simp only [Act.put, List.setIfInBounds_toArray, List.set_cons_succ, List.set_cons_zero]
 have hG := hG2
 clear hG2
 refine HK36.out _ _ ?_; clear HK36
 refine wp_seq_h fun K37 HK37 => ?_
 refine wp_drawn (R := fun W W' => Below W.heap.size W W') 45 [.val (.slice (some adf) x.length cf), .val (.int .i64 (i : Int)), .val (.pointer (some (adf.add i))), .val (.bool false), .val (.bool false), .val ((bif ((false) == true) then (undef) else undef)), .val ((bif ((false) == true) then (undef) else undef)), .val ((bif ((false) == true) then (undef) else undef)), .val ((bif ((false) == false) then (undef) else undef)), .val ((bif ((false) == false) then (undef) else undef)), .val ((bif ((false) == false) then (undef) else undef)), .val ((bif ((false) == true) then (undef) else undef)), .val ((bif ((false) == true) then (undef) else undef)), .val ((bif ((false) == false) then (undef) else undef)), .val ((bif ((false) == false) then (undef) else undef)), .val ((bif ((false) == false) then (undef) else undef)), .val ((bif ((false) == false) then (undef) else undef)), .val ((bif ((false) == false) then (undef) else undef)), .val ((bif ((false) == false) then (undef) else undef)), .val ((bif ((false) == false) then (undef) else undef)), .val ((bif ((false) == false) then (undef) else undef)), .val ((bif ((false) == false) then (undef) else undef)), .val ((bif ((false) == true) then (undef) else undef)), .val ((bif ((false) == true) then (undef) else undef)), .val ((bif ((false) == false) then (undef) else undef)), .val ((bif ((false) == false) then (undef) else undef)), .val ((bif ((false) == false) then (undef) else undef)), .val ((bif ((false) == false) then (undef) else undef)), .val ((bif ((false) == false) then (undef) else undef)), .val ((bif ((false) == false) then (undef) else undef)), .val ((bif ((false) == false) then (undef) else undef)), .val ((bif ((false) == false) then (undef) else undef)), .val ((bif ((false) == false) then (undef) else undef)), .val ((bif ((false) == true) then (undef) else undef)), .val ((bif ((false) == true) then (undef) else undef)), .val ((bif ((false) == false) then (undef) else undef)), .val ((bif ((false) == false) then (undef) else undef)), .val ((bif ((false) == false) then (undef) else undef)), .val ((bif ((false) == true) then (undef) else undef)), .val ((bif ((false) == true) then (undef) else undef)), .val ((bif ((false) == false) then (undef) else undef)), .val ((bif ((false) == false) then (undef) else undef)), .val ((bif ((false) == false) then (undef) else undef)), .val ((bif ((false) == true) then (undef) else undef)), .val (.bool false)] (fun W => (Below W0.heap.size W0 W ∧ W.heap[gx]? = some (.cells #[.int .i64 y.f1.f0, .int .i64 y.f1.f1, .int .i64 y.f1.f2, .int .i64 y.f1.f3, .int .i32 (off x far i)] 32 (0, 0))) ∧ W.heap[gy]? = some (.cells #[.int .i64 y.f1.f0, .int .i64 y.f1.f1, .int .i64 y.f1.f2, .int .i64 y.f1.f3, .int .i32 (off x far i)] 32 (0, 0))) rfl kr ⟨⟨hG.1.1.drew, hG.1.2⟩, hG.2⟩ ?_ ?_
 · intro vs W hG b hb
   have i120 := ei_ 120 hb 4
   have e3 : b.eval (.tmp 3) = .slice (some ad) x.length cx := eo_ hb
   have e7 : b.eval (.tmp 7) = .slice (some adf) x.length cf := eo_ hb
   have e9 : b.eval (.tmp 9) = .int .i64 (i : Int) := eo_ hb
   have e11 : b.eval (.tmp 11) = .pointer (some ⟨gx, 0, none⟩) := eo_ hb
   have e15 : b.eval (.tmp 15) = .pointer (some ⟨gy, 0, none⟩) := eo_ hb
   have e16 : b.eval (.tmp 16) = .bool true := eo_ hb
   refine ai ?_ (ai ?_ (ai ?_ (ai ?_ (ai ?_ (ai ?_ (ai ?_ (ai ?_ (ai ?_ (ai ?_ (ai ?_ (ai ?_ (ai ?_ (ai ?_ (ai ?_ (ai ?_ (ai ?_ (ai ?_ (ai ?_ (ai ?_ (ai ?_ (ai ?_ (ai ?_ (ai ?_ (ai ?_ (ai ?_ (ai ?_ (ai ?_ (ai ?_ (ai ?_ (ai ?_ (ai ?_ (ai ?_ (ai ?_ (ai ?_ (ai ?_ (ai ?_ (ai ?_ (ai ?_ (ai ?_ (ai ?_ (ai ?_ (ai ?_ (ai ?_ (ai ?_ (trivial)))))))))))))))))))))))))))))))))))))))))))))
   · exact mI hG fun hp => e7
   · exact mI hG fun hp => e9
   · exact gv rfl hG fun hp K hK => st_index rfl (ev 116 hb 0 (hp 0 kr)) (ev 117 hb 1 (hp 1 kr)) (ix26 hil _) hK
   · exact gv rfl hG fun hp K hK => st_load rfl (ev 118 hb 2 (hp 2 kr)) (by obtain ⟨a', ha', hl'⟩ := ld_far (Kd.C_below HF.out hG.1.1) hil; rw [Option.some.inj ha']; rw [hfi] at hl'; exact ld_cell 4 kr hl') hK
   · exact mI hG fun hp => ev 119 hb 3 (hp 3 kr)
   · exact gI 4 120 false true i120 hG fun hp K hK hc => absurd hc (by decide)
   · exact gI 4 120 false true i120 hG fun hp K hK hc => absurd hc (by decide)
   · exact gI 4 120 false true i120 hG fun hp K hK hc => absurd hc (by decide)
   · intro hp K hK; exact g_never (j := 7) (want := false) rfl (yielded_undef (d := 123) rfl rfl (ev 123 hb 7 (hp 7 kr))) (hK _ _ rfl hG br)
   · intro hp K hK; exact g_never (j := 7) (want := false) rfl (yielded_undef (d := 123) rfl rfl (ev 123 hb 7 (hp 7 kr))) (hK _ _ rfl hG br)
   · intro hp K hK; exact g_never (j := 7) (want := false) rfl (yielded_undef (d := 123) rfl rfl (ev 123 hb 7 (hp 7 kr))) (hK _ _ rfl hG br)
   · exact gI 4 120 false true i120 hG fun hp K hK hc => absurd hc (by decide)
   · exact gI 4 120 false true i120 hG fun hp K hK hc => absurd hc (by decide)
   · intro hp K hK; exact g_never (j := 12) (want := false) rfl (yielded_undef (d := 128) rfl rfl (ev 128 hb 12 (hp 12 kr))) (hK _ _ rfl hG br)
   · intro hp K hK; exact g_never (j := 12) (want := false) rfl (yielded_undef (d := 128) rfl rfl (ev 128 hb 12 (hp 12 kr))) (hK _ _ rfl hG br)
   · intro hp K hK; exact g_never (j := 12) (want := false) rfl (yielded_undef (d := 128) rfl rfl (ev 128 hb 12 (hp 12 kr))) (hK _ _ rfl hG br)
   · intro hp K hK; exact g_never (j := 12) (want := false) rfl (yielded_undef (d := 128) rfl rfl (ev 128 hb 12 (hp 12 kr))) (hK _ _ rfl hG br)
   · intro hp K hK; exact g_never (j := 12) (want := false) rfl (yielded_undef (d := 128) rfl rfl (ev 128 hb 12 (hp 12 kr))) (hK _ _ rfl hG br)
   · intro hp K hK; exact g_never (j := 12) (want := false) rfl (yielded_undef (d := 128) rfl rfl (ev 128 hb 12 (hp 12 kr))) (hK _ _ rfl hG br)
   · intro hp K hK; exact g_never (j := 12) (want := false) rfl (yielded_undef (d := 128) rfl rfl (ev 128 hb 12 (hp 12 kr))) (hK _ _ rfl hG br)
   · intro hp K hK; exact g_never (j := 12) (want := false) rfl (yielded_undef (d := 128) rfl rfl (ev 128 hb 12 (hp 12 kr))) (hK _ _ rfl hG br)
   · intro hp K hK; exact g_never (j := 12) (want := false) rfl (yielded_undef (d := 128) rfl rfl (ev 128 hb 12 (hp 12 kr))) (hK _ _ rfl hG br)
   · exact gI 4 120 false true i120 hG fun hp K hK hc => absurd hc (by decide)
   · exact gI 4 120 false true i120 hG fun hp K hK hc => absurd hc (by decide)
   · intro hp K hK; exact g_never (j := 23) (want := false) rfl (yielded_undef (d := 139) rfl rfl (ev 139 hb 23 (hp 23 kr))) (hK _ _ rfl hG br)
   · intro hp K hK; exact g_never (j := 23) (want := false) rfl (yielded_undef (d := 139) rfl rfl (ev 139 hb 23 (hp 23 kr))) (hK _ _ rfl hG br)
   · intro hp K hK; exact g_never (j := 23) (want := false) rfl (yielded_undef (d := 139) rfl rfl (ev 139 hb 23 (hp 23 kr))) (hK _ _ rfl hG br)
   · intro hp K hK; exact g_never (j := 23) (want := false) rfl (yielded_undef (d := 139) rfl rfl (ev 139 hb 23 (hp 23 kr))) (hK _ _ rfl hG br)
   · intro hp K hK; exact g_never (j := 23) (want := false) rfl (yielded_undef (d := 139) rfl rfl (ev 139 hb 23 (hp 23 kr))) (hK _ _ rfl hG br)
   · intro hp K hK; exact g_never (j := 23) (want := false) rfl (yielded_undef (d := 139) rfl rfl (ev 139 hb 23 (hp 23 kr))) (hK _ _ rfl hG br)
   · intro hp K hK; exact g_never (j := 23) (want := false) rfl (yielded_undef (d := 139) rfl rfl (ev 139 hb 23 (hp 23 kr))) (hK _ _ rfl hG br)
   · intro hp K hK; exact g_never (j := 23) (want := false) rfl (yielded_undef (d := 139) rfl rfl (ev 139 hb 23 (hp 23 kr))) (hK _ _ rfl hG br)
   · intro hp K hK; exact g_never (j := 23) (want := false) rfl (yielded_undef (d := 139) rfl rfl (ev 139 hb 23 (hp 23 kr))) (hK _ _ rfl hG br)
   · exact gI 4 120 false true i120 hG fun hp K hK hc => absurd hc (by decide)
   · exact gI 4 120 false true i120 hG fun hp K hK hc => absurd hc (by decide)
   · intro hp K hK; exact g_never (j := 34) (want := false) rfl (yielded_undef (d := 150) rfl rfl (ev 150 hb 34 (hp 34 kr))) (hK _ _ rfl hG br)
   · intro hp K hK; exact g_never (j := 34) (want := false) rfl (yielded_undef (d := 150) rfl rfl (ev 150 hb 34 (hp 34 kr))) (hK _ _ rfl hG br)
   · intro hp K hK; exact g_never (j := 34) (want := false) rfl (yielded_undef (d := 150) rfl rfl (ev 150 hb 34 (hp 34 kr))) (hK _ _ rfl hG br)
   · exact gI 4 120 false true i120 hG fun hp K hK hc => absurd hc (by decide)
   · exact gI 4 120 false true i120 hG fun hp K hK hc => absurd hc (by decide)
   · intro hp K hK; exact g_never (j := 39) (want := false) rfl (yielded_undef (d := 155) rfl rfl (ev 155 hb 39 (hp 39 kr))) (hK _ _ rfl hG br)
   · intro hp K hK; exact g_never (j := 39) (want := false) rfl (yielded_undef (d := 155) rfl rfl (ev 155 hb 39 (hp 39 kr))) (hK _ _ rfl hG br)
   · intro hp K hK; exact g_never (j := 39) (want := false) rfl (yielded_undef (d := 155) rfl rfl (ev 155 hb 39 (hp 39 kr))) (hK _ _ rfl hG br)
   · exact gI 4 120 false true i120 hG fun hp K hK hc => absurd hc (by decide)
   · refine g0 fun hp K hK => ?_; have e120 : b.eval (.tmp 120) = _ := ev 120 hb 4 (hp 4 kr); have e159 : b.eval (.tmp 159) = _ := ev 159 hb 43 (hp 43 kr); exact st_pick rfl (e120) (by first | (rw [eval_const]; exact rfl) | (rw [show b.eval (Operand.const (Value.bool false)) = _ from eval_const _]; exact rfl)) (hK _ _ rfl hG br)
 intro vs W hG hp b hb
 have q44 : vs 44 = _ := hp 44 kd
 clear hp
 simp only [fillS, Nat.reduceAdd, Nat.zero_add, q44] at hb
 subst hb
 refine wpList_nil ?_
 clear q44
 refine HK37.out _ _ ?_; clear HK37
 apply wp_cond_false rfl
 apply wp_skip
 simp only [Exit.inBlock, Exit.then, ↓reduceIte]
 replace hG := hG.1.1
 refine HK16.out _ _ ?_; clear HK16
 try clear hql
 try clear hturn
 try clear hokv
 try clear hwv
 try clear hoky
 try clear hwy
 try clear hqv
 try clear hdy
 try clear hdv
 try clear ht1
 try clear ht2
 try clear hop
 clear hbq hlab hof hbi hal hba hoi hNn hfi hk2 hxm hxy
 have HG := Lib.hid hG
 have Hil := Lib.hid hil
 clear hG hil hi
 go_wp2
 exact ⟨loop_frame kr, ⟨i + 1, by show Value.int .i64 _ = _; simp, Hil.out, HG.out⟩, Msr.lt (by have := Hil.out; omega)⟩
end Go.Proofs.Ytihecimbhhlhaaa.Rl
