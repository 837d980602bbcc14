/- lives; the law AsmAll. -/
import Derived.Test.YtihecimbhhlhaaaAmF
import Derived.Test.YtihecimbhhlhaaaRsG7
import Derived.Test.YtihecimbhhlhaaaRsMc
namespace Go.Proofs.Ytihecimbhhlhaaa.Rl
open Go.RowKit Dr PRs
open Go.Proofs.YtihecimbhhlhaaaW.PrintWords (Kd Kd.C Kd.R Kd.C_below Kd.C_get Kd.R_below Kd.R_reads Kd.R_reads' Kd.R_types Kd.R_step Kd.R_alloc Kd.R_drew Kd.R_lower add_field)
set_option linter.unusedVariables false
set_option linter.unusedSimpArgs false
set_option maxRecDepth 100000
def j0I : S34 := ⟨2, ⟨0, 0, 0, 0, 0⟩, 1⟩
def j1I : S34 := ⟨1, ⟨19, 0, 0, 0, 0⟩, 0⟩
def j2I : S34 := ⟨4, ⟨44, 0, 0, 0, 0⟩, 1⟩
def L3 : List S34 := [j0I, j1I, j2I]
theorem L3_ok : okL L3 := by
 refine ⟨fun i hi => ?_, fun i j hij hj h1 h2 _ => ?_, fun i hi hn => ?_⟩
 · match i, hi with
   | 0, _ => show mayB j0I = true; decide +kernel
   | 1, _ => show mayB j1I = true; decide +kernel
   | 2, _ => show mayB j2I = true; decide +kernel
 · match j, hj with
   | 0, _ => omega
   | 1, _ => exact absurd h2 (by decide)
   | 2, _ => exact absurd h2 (by decide)
 · match i, hi with
   | 0, _ => exact absurd hn (by decide)
   | 1, _ => exact absurd hn (by decide)
   | 2, _ => decide
theorem L3_okx : ∀ x ∈ L3, In64 x.f2 ∧ In32 x.f1.f4 := by
 intro x hx
 have h : x = j0I ∨ x = j1I ∨ x = j2I := by simpa [L3] using hx
 rcases h with rfl | rfl | rfl <;> (unfold In64 In32; decide)
theorem L3_far {far : Nat → Bool} (h : FI L3 far) : far = fun _ => false := by
 funext i
 cases q : far i with
 | false => rfl
 | true =>
  have hk := h.1 i q
  match i, hk.1 with
  | 0, _ => exact absurd hk.2 (by decide)
  | 1, _ => exact absurd hk.2 (by decide)
  | 2, _ => exact absurd hk.2 (by decide)
theorem L3_wl {far : Nat → Bool} (h : FI L3 far) : wl L3 far L3.length = [19, 4292866159] := by
 rw [L3_far h]
 decide +kernel
def row3j : Array Value := it j0I ++ it j1I ++ it j2I
theorem bs3j (W : World) : (Instr.buildSlice 23 3 #[(0, .agg (it j0I)), (1, .agg (it j1I)), (2, .agg (it j2I))]).run Try.prog W = .ok (.slice (some ⟨W.heap.size, 0, none⟩) 3 3) (W.alloc (.cells row3j 34)) := by kernel_rfl
theorem C_row3j {W : World} {g : Nat} (h : W.heap[g]? = some (.cells row3j 34 (0, 0))) : Kd.C k34 W (some ⟨g, 0, none⟩) L3.length L3 := by
 refine ⟨rfl, by show 3 ≤ 9223372036854775807; decide, fun _ => ⟨_, rfl, fun j p hp => ?_⟩⟩
 have hj : j < 3 := (List.getElem?_eq_some_iff.1 hp).1
 refine ⟨(it p).toList, rfl, k34_mk W p, fun i u hu => ?_⟩
 have hi : i < 7 := (List.getElem?_eq_some_iff.1 hu).1
 have e : (Addr.add ⟨g, 0, none⟩ (j * 7 + i)) = ⟨g, j * 7 + i, none⟩ := by rw [Addr.add_mid, Nat.zero_add]
 rw [show k34.sz = 7 from rfl, e, blk_cell h]
 match j, hj with
 | 0, _ =>
  obtain rfl : j0I = p := Option.some.inj hp
  match i, hi with
  | 0, _ | 1, _ | 2, _ | 3, _ | 4, _ | 5, _ | 6, _ => exact hu
 | 1, _ =>
  obtain rfl : j1I = p := Option.some.inj hp
  match i, hi with
  | 0, _ | 1, _ | 2, _ | 3, _ | 4, _ | 5, _ | 6, _ => exact hu
 | 2, _ =>
  obtain rfl : j2I = p := Option.some.inj hp
  match i, hi with
  | 0, _ | 1, _ | 2, _ | 3, _ | 4, _ | 5, _ | 6, _ => exact hu
theorem bs2w (W : World) : (Instr.buildSlice 39 2 #[(0, .int .u32 19), (1, .int .u32 4292866159)]).run Try.prog W = .ok (.slice (some ⟨W.heap.size, 0, none⟩) 2 2) (W.alloc (.cells #[.int .u32 19, .int .u32 4292866159] 42)) := by kernel_rfl
theorem C_two_w {W : World} {g : Nat} (h : W.heap[g]? = some (.cells #[.int .u32 19, .int .u32 4292866159] 42 (0, 0))) : Kd.C (Kd.int .u32) W (some ⟨g, 0, none⟩) 2 [19, 4292866159] := by
 refine ⟨rfl, by decide, fun _ => ⟨_, rfl, fun j p hp => ⟨[.int .u32 p], rfl, rfl, fun i u hu => ?_⟩⟩⟩
 have hj : j < 2 := (List.getElem?_eq_some_iff.1 hp).1
 have hi : i < 1 := (List.getElem?_eq_some_iff.1 hu).1
 have e : (Addr.add ⟨g, 0, none⟩ (j * 1 + i)) = ⟨g, j * 1 + i, none⟩ := by rw [Addr.add_mid, Nat.zero_add]
 rw [show (Kd.int .u32).sz = 1 from rfl, e, blk_cell h]
 obtain rfl : i = 0 := by omega
 match j, hj with
 | 0, _ =>
  obtain rfl : (19 : Int) = p := Option.some.inj hp
  exact hu
 | 1, _ =>
  obtain rfl : (4292866159 : Int) = p := Option.some.inj hp
  exact hu
/-- What Words answers of items that may be. -/
def wordS (l : List S34) : DSpec (fun W W' => Below W.heap.size W W') := ⟨fun v W => ∃ far u, v = .tuple #[u, .int .i64 0] ∧ Kd.R (Kd.int .u32) 42 W 0 (fun _ => True) u (wl l far l.length) ∧ (good l far ∧ FI l far), fun _ _ _ ⟨far, u, h1, h2, h3⟩ hb => ⟨far, u, h1, Kd.R_below h2 hb, h3⟩⟩
/-- What the document's Layout answers. -/
def docS (l : List S34) (far : Nat → Bool) : DSpec (fun W W' => Below W.heap.size W W') := ⟨fun v W => ∃ v0 v1, v = .tuple #[v0, v1, .int .i64 0] ∧ Kd.R (Kd.int .i64) 3 W 0 (fun _ => True) v0 (begs l far (l.length + 1)) ∧ Kd.R Kd.bool 4 W 0 (fun _ => True) v1 (farL far l.length), fun _ _ _ ⟨v0, v1, h1, h2, h3⟩ hb => ⟨v0, v1, h1, Kd.R_below h2 hb, Kd.R_below h3 hb⟩⟩
theorem same_two : d11S.f 9 [19, 4292866159] [19, 4292866159] = some true := by decide +kernel
set_option maxHeartbeats 8000000 in
theorem asm_lives (w : World) : Calls Try.prog 13 #[] w fun e w' => e = .returned (.bool true) ∧ Below w.heap.size w w' := by
 go_enter Try.func13, Try.ntmps13
 refine wp_seq_h fun K1 HK1 => ?_
 refine wp_listed (R := fun W W' => Below W.heap.size W W') 1 [.val (.bool false)] (fun W => Below w.heap.size w W) kr br ?_ ?_
 · intro vs W hG b hb
   refine ai ?_ (trivial)
   · exact gv rfl hG fun hp K hK => st_move (.inr rfl) (eval_const _) hK
 intro vs W hG hp b hb
 have q0 : vs 0 = _ := hp 0 kd
 clear hp
 simp only [fillS, Nat.reduceAdd, Nat.zero_add, q0] at hb
 subst hb
 refine wpList_nil ?_
 clear q0
 refine HK1.out _ _ ?_; clear HK1
 refine wp_seq_h fun K2 HK2 => ?_
 refine wp_listed (R := fun W W' => Below W.heap.size W W') 7 [.val (.agg (it j0I)), .val (.agg #[.int .i64 19, .int .i64 0, .int .i64 0, .int .i64 0, .int .i32 0]), .val (.agg (it j1I)), .val (.agg #[.int .i64 44, .int .i64 0, .int .i64 0, .int .i64 0, .int .i32 0]), .val (.agg (it j2I)), ⟨fun v W => ∃ g, v = .slice (some ⟨g, 0, none⟩) 3 3 ∧ W.heap[g]? = some (.cells row3j 34 (0, 0)), fun _ _ _ ⟨g, h1, h2⟩ hb => ⟨g, h1, blk_below h2 hb⟩⟩, wordS (L3)] (fun W => Below w.heap.size w W) kr hG ?_ ?_
 · intro vs W hG b hb
   refine ai ?_ (ai ?_ (ai ?_ (ai ?_ (ai ?_ (ai ?_ (ai ?_ (trivial)))))))
   · exact gv rfl hG fun hp K hK => st_build rfl (m_27) kr hK
   · exact gv rfl hG fun hp K hK => st_build rfl (m_27) kr hK
   · refine g0 fun hp K hK => ?_; have e5 : b.eval (.tmp 5) = _ := ev 5 hb 1 (hp 1 kr); exact st_build rfl (by first | (simp only [List.map_toArray, List.map_cons, List.map_nil, eval_const, e5]; done) | (simp only [List.map_toArray, List.map_cons, List.map_nil, eval_const, e5]; rfl)) kr (hK _ _ rfl hG br)
   · exact gv rfl hG fun hp K hK => st_build rfl (m_27) kr hK
   · refine g0 fun hp K hK => ?_; have e7 : b.eval (.tmp 7) = _ := ev 7 hb 3 (hp 3 kr); exact st_build rfl (by first | (simp only [List.map_toArray, List.map_cons, List.map_nil, eval_const, e7]; done) | (simp only [List.map_toArray, List.map_cons, List.map_nil, eval_const, e7]; rfl)) kr (hK _ _ rfl hG br)
   · refine g0 fun hp K hK => ?_; have e4 : b.eval (.tmp 4) = _ := ev 4 hb 0 (hp 0 kr); have e6 : b.eval (.tmp 6) = _ := ev 6 hb 2 (hp 2 kr); have e8 : b.eval (.tmp 8) = _ := ev 8 hb 4 (hp 4 kr); exact st_buildSlice rfl (by first | (simp only [List.map_toArray, List.map_cons, List.map_nil, eval_const, e4, e6, e8]; done) | (simp only [List.map_toArray, List.map_cons, List.map_nil, eval_const, e4, e6, e8]; rfl)) (bs3j _) (hK _ _ ⟨_, rfl, blk_new _ _⟩ (hG.alloc hG.size _) (br.alloc (Nat.le_refl _) _))
   · refine g0 fun hp K hK => ?_; have q5 : ∃ g, (vs 5) = .slice (some ⟨g, 0, none⟩) 3 3 ∧ W.heap[g]? = some (.cells row3j 34 (0, 0)) := hp 5 kr; obtain ⟨g, hv, hg⟩ := q5; have e9 := (ei_ 9 hb 5).trans hv; refine st_call rfl (m_65) kr ?_; refine (words_good (some ⟨g, 0, none⟩) 3 L3 0 _ (by decide) (by decide) (fun x hx => (L3_okx x hx).1) (fun x hx => (L3_okx x hx).2) (C_row3j hg) L3_ok (fun far i hi => kinds_of L3_ok i hi)).mono ?_; rintro e w' ⟨far, v, rfl, hR, hgf, hb'⟩; have hR0 := Kd.R_lower hR (Nat.zero_le _); exact ⟨_, rfl, hK _ _ ⟨_, _, rfl, hR0, hgf⟩ (below_step hG hb') hb'⟩
 intro vs W hG hp b hb
 have q0 : vs 0 = _ := hp 0 kd
 have q1 : vs 1 = _ := hp 1 kd
 have q2 : vs 2 = _ := hp 2 kd
 have q3 : vs 3 = _ := hp 3 kd
 have q4 : vs 4 = _ := hp 4 kd
 have q5 : ∃ g, (vs 5) = .slice (some ⟨g, 0, none⟩) 3 3 ∧ W.heap[g]? = some (.cells row3j 34 (0, 0)) := hp 5 kd
 have q6 : ∃ far v, (vs 6) = .tuple #[v, .int .i64 0] ∧ Kd.R (Kd.int .u32) 42 W 0 (fun _ => True) v (wl (L3) far (L3).length) ∧ (good (L3) far ∧ FI (L3) far) := hp 6 kd
 clear hp
 simp only [fillS, Nat.reduceAdd, Nat.zero_add, q0, q1, q2, q3, q4] at hb
 subst hb
 simp only [List.append_eq, List.cons_append, List.nil_append, List.drop_succ_cons, List.drop_zero]
 clear q0 q1 q2 q3 q4
 clear q5
 obtain ⟨far, v, hv, hR, hgf⟩ := q6
 rw [hv]
 clear hv
 rw [L3_wl hgf.2] at hR
 obtain ⟨Aw, cw, rfl, hcw, hCw⟩ := Kd.R_reads hR
 have HG := Lib.hid (And.intro hG hCw)
 have Hc := Lib.hid hcw
 clear hG hCw hcw hR hgf
 go_wp2
 have hG := HG.out
 clear HG
 refine HK2.out _ _ ?_; clear HK2
 refine wp_seq_h fun K3 HK3 => ?_
 refine wp_listed (R := fun W W' => Below W.heap.size W W') 7 [.val (.int .i64 0), .val (.bool (0 == 0)), .val (.bool (0 == 0)), .val ((bif ((0 == 0) == true) then (.slice Aw [19, 4292866159].length cw) else undef)), ⟨fun v W => ∃ g, v = .slice (some ⟨g, 0, none⟩) 2 2 ∧ W.heap[g]? = some (.cells #[.int .u32 19, .int .u32 4292866159] 42 (0, 0)), fun _ _ _ ⟨g, h1, h2⟩ hb => ⟨g, h1, blk_below h2 hb⟩⟩, .val ((bif ((0 == 0) == true) then (.bool true) else undef)), .val (.bool ((0 == 0) && true))] (fun W => Below w.heap.size w W ∧ Kd.C (Kd.int .u32) W Aw [19, 4292866159].length [19, 4292866159]) kr hG ?_ ?_
 · intro vs W hG b hb
   have e1 : b.eval (.tmp 1) = .slice Aw [19, 4292866159].length cw := eo_ hb
   have e2 : b.eval (.tmp 2) = .int .i64 0 := eo_ hb
   refine ai ?_ (ai ?_ (ai ?_ (ai ?_ (ai ?_ (ai ?_ (ai ?_ (trivial)))))))
   · exact mI hG fun hp => e2
   · exact gv rfl hG fun hp K hK => st_bin rfl (ev 13 hb 0 (hp 0 kr)) (eval_const _) b_eql hK
   · exact mI hG fun hp => ev 14 hb 1 (hp 1 kr)
   · exact gI 2 15 (0 == 0) true (ei_ 15 hb 2) hG fun hp K hK hc => st_move (.inl rfl) (e1) (hK _ _ (cond_yes hc).symm hG br)
   · intro hp K hK; refine g_is (j := 2) (want := true) (c := 0 == 0) rfl (yielded_of (d := 15) rfl rfl (ev 15 hb 2 (hp 2 kr))) (fun hb => ?_) (fun hb => absurd rfl hb); exact st_buildSlice rfl (m_27) (bs2w _) (hK _ _ ⟨_, rfl, blk_new _ _⟩ ⟨hG.1.alloc hG.1.size _, Kd.C_below hG.2 (br.alloc (Nat.le_refl _) _)⟩ (br.alloc (Nat.le_refl _) _))
   · refine gI 2 15 (0 == 0) true (ei_ 15 hb 2) hG fun hp K hK hc => ?_; have e16 : b.eval (.tmp 16) = _ := ev 16 hb 3 (hp 3 kr); replace e16 := e16.trans (cond_yes hc); have q4 : ∃ g, (vs 4) = .slice (some ⟨g, 0, none⟩) 2 2 ∧ W.heap[g]? = some (.cells #[.int .u32 19, .int .u32 4292866159] 42 (0, 0)) := hp 4 kr; obtain ⟨g, hv, hg⟩ := q4; have e17 := (ei_ 17 hb 4).trans hv; refine st_call rfl (by first | (simp only [List.map_toArray, List.map_cons, List.map_nil, eval_const, e16, e17]; done) | (simp only [List.map_toArray, List.map_cons, List.map_nil, eval_const, e16, e17]; rfl)) kr ?_; refine (d11S.calls 9 Aw cw [19, 4292866159] (some ⟨g, 0, none⟩) 2 [19, 4292866159] true _ hG.2 Hc.out (C_two_w hg) (by decide) same_two).mono ?_; rintro e w' ⟨rfl, hd⟩; have hc' := below_drawn hd; exact ⟨_, rfl, hK _ _ (cond_yes hc).symm ⟨below_step hG.1 hc', Kd.C_below hG.2 hc'⟩ hc'⟩
   · refine g0 fun hp K hK => ?_; have e15 : b.eval (.tmp 15) = _ := ev 15 hb 2 (hp 2 kr); have e18 : b.eval (.tmp 18) = _ := ev 18 hb 5 (hp 5 kr); exact st_pick rfl (e15) (by first | (rw [e18]; exact pick_and) | (rw [show b.eval (Operand.tmp 18) = _ from eval_const _]; exact pick_and)) (hK _ _ rfl hG br)
 intro vs W hG hp b hb
 have q4 : ∃ g, (vs 4) = .slice (some ⟨g, 0, none⟩) 2 2 ∧ W.heap[g]? = some (.cells #[.int .u32 19, .int .u32 4292866159] 42 (0, 0)) := hp 4 kd
 have q6 : vs 6 = _ := hp 6 kd
 clear hp
 simp only [fillS, Nat.reduceAdd, Nat.zero_add, q6] at hb
 subst hb
 simp only [List.append_eq, List.cons_append, List.nil_append, List.drop_succ_cons, List.drop_zero]
 clear q6
 have hc : ((0 == 0) && true) = true := rfl
 rw [hc]
 clear hc
 have HG := Lib.hid hG.1
 clear hG
 go_wp2
 refine HK3.out _ _ ?_; clear HK3
 go_wp2
 go_ret
 exact ⟨rfl, HG.out⟩
theorem far_one {l : List S34} {f g : Nat → Bool} (h1 : good l f) (h2 : FI l f) (h3 : good l g) (h4 : FI l g) : f = g := by
 funext i
 have a := h2.2 g h3 i
 have b := h4.2 f h1 i
 cases hf : f i <;> cases hg : g i
 · rfl
 · rw [hf] at b; exact absurd (b hg) (by decide)
 · rw [hg] at a; exact absurd (a hf) (by decide)
 · rfl
theorem len39 {a : Option Addr} {n c : Nat} (cs : Array Bool) (W : World) : (builtin .len #[39] 3 cs #[.slice a n c]).run Try.prog W = .ok (.value (.int .i64 (n : Int))) W := by kernel_rfl
theorem ix39 {ad : Addr} {n c i : Nat} (h : i < n) (W : World) : (Instr.indexAt 39 (.slice (some ad) n c) (.int .i64 (i : Int))).run Try.prog W = .ok (.pointer (some (ad.add i))) W := by
 have e : (sizeOf (Try.prog.elem 39)).run Try.prog W = .ok 1 W := by kernel_rfl
 rw [run_indexAt_slice W 39 ad n c .i64 i kr, if_pos ⟨by omega, by omega⟩, e]
 simp only [Result.andThen_ok, Int.toNat_natCast, Nat.mul_one]
theorem ld_w {W : World} {A : Option Addr} {l : List Int} (h : Kd.C (Kd.int .u32) W A l.length l) {i : Nat} {x : Int} (hi : l[i]? = some x) : ∃ ad, A = some ad ∧ W.cell? (ad.add i) = some (.int .u32 x) := by
 have hlt : i < l.length := (List.getElem?_eq_some_iff.1 hi).1
 obtain ⟨ad, c, e, _, hK, hc⟩ := Kd.C_get h 0 (i : Int) (by omega) (by omega)
 rw [Int.toNat_natCast] at hK hc
 have hx : l.getD i 0 = x := by simp [List.getD, hi]
 rw [hx] at hK
 obtain rfl : c = [.int .u32 x] := hK
 refine ⟨ad, e, ?_⟩
 have := hc 0 _ rfl
 simpa [Kd.int, Kd.scalar] using this
end Go.Proofs.Ytihecimbhhlhaaa.Rl
