/- lives; the law AsmAll. -/
import Derived.Test.YtihecimbhhlhaaaAmF
import Derived.Test.YtihecimbhhlhaaaRsG7
import Derived.Test.YtihecimbhhlhaaaRsMc
namespace Go.Proofs.Ytihecimbhhlhaaa.Rl
open Go.RowKit Dr PRs
open Go.Proofs.YtihecimbhhlhaaaW.PrintWords (Kd Kd.C Kd.R Kd.C_below Kd.C_get Kd.R_below Kd.R_reads Kd.R_reads' Kd.R_types Kd.R_step Kd.R_alloc Kd.R_drew Kd.R_lower add_field)
set_option linter.unusedVariables false
set_option linter.unusedSimpArgs false
set_option maxRecDepth 100000
def j0I : S34 := ⟨2, ⟨0, 0, 0, 0, 0⟩, 1⟩
def j1I : S34 := ⟨1, ⟨19, 0, 0, 0, 0⟩, 0⟩
def j2I : S34 := ⟨4, ⟨44, 0, 0, 0, 0⟩, 1⟩
def L3 : List S34 := [j0I, j1I, j2I]
theorem L3_ok : okL L3 := by
 refine ⟨fun i hi => ?_, fun i j hij hj h1 h2 _ => ?_, fun i hi hn => ?_⟩
 · match i, hi with
   | 0, _ => show mayB j0I = true; decide +kernel
   | 1, _ => show mayB j1I = true; decide +kernel
   | 2, _ => show mayB j2I = true; decide +kernel
 · match j, hj with
   | 0, _ => omega
   | 1, _ => exact absurd h2 (by decide)
   | 2, _ => exact absurd h2 (by decide)
 · match i, hi with
   | 0, _ => exact absurd hn (by decide)
   | 1, _ => exact absurd hn (by decide)
   | 2, _ => decide
theorem L3_okx : ∀ x ∈ L3, In64 x.f2 ∧ In32 x.f1.f4 := by
 intro x hx
 have h : x = j0I ∨ x = j1I ∨ x = j2I := by simpa [L3] using hx
 rcases h with rfl | rfl | rfl <;> (unfold In64 In32; decide)
theorem L3_far {far : Nat → Bool} (h : FI L3 far) : far = fun _ => false := by
 funext i
 cases q : far i with
 | false => rfl
 | true =>
  have hk := h.1 i q
  match i, hk.1 with
  | 0, _ => exact absurd hk.2 (by decide)
  | 1, _ => exact absurd hk.2 (by decide)
  | 2, _ => exact absurd hk.2 (by decide)
theorem L3_wl {far : Nat → Bool} (h : FI L3 far) : wl L3 far L3.length = [19, 4292866159] := by
 rw [L3_far h]
 decide +kernel
def row3j : Array Value := it j0I ++ it j1I ++ it j2I
theorem bs3j (W : World) : (Instr.buildSlice 23 3 #[(0, .agg (it j0I)), (1, .agg (it j1I)), (2, .agg (it j2I))]).run Try.prog W = .ok (.slice (some ⟨W.heap.size, 0, none⟩) 3 3) (W.alloc (.cells row3j 34)) := by kernel_rfl
theorem C_row3j {W : World} {g : Nat} (h : W.heap[g]? = some (.cells row3j 34 (0, 0))) : Kd.C k34 W (some ⟨g, 0, none⟩) L3.length L3 := by
 refine ⟨rfl, by show 3 ≤ 9223372036854775807; decide, fun _ => ⟨_, rfl, fun j p hp => ?_⟩⟩
 have hj : j < 3 := (List.getElem?_eq_some_iff.1 hp).1
 refine ⟨(it p).toList, rfl, k34_mk W p, fun i u hu => ?_⟩
 have hi : i < 7 := (List.getElem?_eq_some_iff.1 hu).1
 have e : (Addr.add ⟨g, 0, none⟩ (j * 7 + i)) = ⟨g, j * 7 + i, none⟩ := by rw [Addr.add_mid, Nat.zero_add]
 rw [show k34.sz = 7 from rfl, e, blk_cell h]
 match j, hj with
 | 0, _ =>
  obtain rfl : j0I = p := Option.some.inj hp
  match i, hi with
  | 0, _ | 1, _ | 2, _ | 3, _ | 4, _ | 5, _ | 6, _ => exact hu
 | 1, _ =>
  obtain rfl : j1I = p := Option.some.inj hp
  match i, hi with
  | 0, _ | 1, _ | 2, _ | 3, _ | 4, _ | 5, _ | 6, _ => exact hu
 | 2, _ =>
  obtain rfl : j2I = p := Option.some.inj hp
  match i, hi with
  | 0, _ | 1, _ | 2, _ | 3, _ | 4, _ | 5, _ | 6, _ => exact hu
theorem bs2w (W : World) : (Instr.buildSlice 39 2 #[(0, .int .u32 19), (1, .int .u32 4292866159)]).run Try.prog W = .ok (.slice (some ⟨W.heap.size, 0, none⟩) 2 2) (W.alloc (.cells #[.int .u32 19, .int .u32 4292866159] 42)) := by kernel_rfl
theorem C_two_w {W : World} {g : Nat} (h : W.heap[g]? = some (.cells #[.int .u32 19, .int .u32 4292866159] 42 (0, 0))) : Kd.C (Kd.int .u32) W (some ⟨g, 0, none⟩) 2 [19, 4292866159] := by
 refine ⟨rfl, by decide, fun _ => ⟨_, rfl, fun j p hp => ⟨[.int .u32 p], rfl, rfl, fun i u hu => ?_⟩⟩⟩
 have hj : j < 2 := (List.getElem?_eq_some_iff.1 hp).1
 have hi : i < 1 := (List.getElem?_eq_some_iff.1 hu).1
 have e : (Addr.add ⟨g, 0, none⟩ (j * 1 + i)) = ⟨g, j * 1 + i, none⟩ := by rw [Addr.add_mid, Nat.zero_add]
 rw [show (Kd.int .u32).sz = 1 from rfl, e, blk_cell h]
 obtain rfl : i = 0 := by omega
 match j, hj with
 | 0, _ =>
  obtain rfl : (19 : Int) = p := Option.some.inj hp
  exact hu
 | 1, _ =>
  obtain rfl : (4292866159 : Int) = p := Option.some.inj hp
  exact hu
/-- What Words answers of items that may be. -/
def wordS (l : List S34) : DSpec (fun W W' => Below W.heap.size W W') := ⟨fun v W => ∃ far u, v = .tuple #[u, .int .i64 0] ∧ Kd.R (Kd.int .u32) 42 W 0 (fun _ => True) u (wl l far l.length) ∧ (good l far ∧ FI l far), fun _ _ _ ⟨far, u, h1, h2, h3⟩ hb => ⟨far, u, h1, Kd.R_below h2 hb, h3⟩⟩
/-- What the document's Layout answers. -/
def docS (l : List S34) (far : Nat → Bool) : DSpec (fun W W' => Below W.heap.size W W') := ⟨fun v W => ∃ v0 v1, v = .tuple #[v0, v1, .int .i64 0] ∧ Kd.R (Kd.int .i64) 3 W 0 (fun _ => True) v0 (begs l far (l.length + 1)) ∧ Kd.R Kd.bool 4 W 0 (fun _ => True) v1 (farL far l.length), fun _ _ _ ⟨v0, v1, h1, h2, h3⟩ hb => ⟨v0, v1, h1, Kd.R_below h2 hb, Kd.R_below h3 hb⟩⟩
theorem same_two : d11S.f 9 [19, 4292866159] [19, 4292866159] = some true := by decide +kernel
set_option maxHeartbeats 8000000 in
theorem asm_lives (w : World) : Calls Try.prog 13 #[] w fun e w' => e = .returned (.bool true) ∧ Below w.heap.size w w' := by
 go_enter Try.func13, Try.ntmps13
 refine wp_seq_h fun K1 HK1 => ?_
 refine wp_listed (R := fun W W' => Below W.heap.size W W') 1 [.val (.bool false)] (fun W => Below w.heap.size w W) kr (Below.refl _ _) ?_ ?_
 · intro vs W hG b hb
   clear hb
   refine And.intro ?_ (trivial)
   · refine g0 fun hp K hK => ?_; exact st_move (.inr rfl) (eval_const _) (hK _ _ rfl hG (Below.refl _ _))
 intro vs W hG hp b hb
 have q0 : vs 0 = _ := hp 0 kd
 clear hp
 simp only [fillS, Nat.reduceAdd, Nat.zero_add, q0] at hb
 subst hb
 refine wpList_nil ?_
 clear q0
 refine HK1.out _ _ ?_; clear HK1
 refine wp_seq_h fun K2 HK2 => ?_
 refine wp_listed (R := fun W W' => Below W.heap.size W W') 7 [.val (.agg (it j0I)), .val (.agg #[.int .i64 19, .int .i64 0, .int .i64 0, .int .i64 0, .int .i32 0]), .val (.agg (it j1I)), .val (.agg #[.int .i64 44, .int .i64 0, .int .i64 0, .int .i64 0, .int .i32 0]), .val (.agg (it j2I)), ⟨fun v W => ∃ g, v = .slice (some ⟨g, 0, none⟩) 3 3 ∧ W.heap[g]? = some (.cells row3j 34 (0, 0)), fun _ _ _ ⟨g, h1, h2⟩ hb => ⟨g, h1, blk_below h2 hb⟩⟩, wordS (L3)] (fun W => Below w.heap.size w W) kr hG ?_ ?_
 · intro vs W hG b hb
   have i4 := ei_ 4 hb 0
   have i5 := ei_ 5 hb 1
   have i6 := ei_ 6 hb 2
   have i7 := ei_ 7 hb 3
   have i8 := ei_ 8 hb 4
   have i9 := ei_ 9 hb 5
   clear hb
   refine And.intro ?_ (And.intro ?_ (And.intro ?_ (And.intro ?_ (And.intro ?_ (And.intro ?_ (And.intro ?_ (trivial)))))))
   · refine g0 fun hp K hK => ?_; exact st_build rfl (m_27) kr (hK _ _ rfl hG (Below.refl _ _))
   · refine g0 fun hp K hK => ?_; exact st_build rfl (m_27) kr (hK _ _ rfl hG (Below.refl _ _))
   · refine g0 fun hp K hK => ?_; have e5 : b.eval (.tmp 5) = _ := i5.trans (hp 1 kr); exact st_build rfl (by first | (simp only [List.map_toArray, List.map_cons, List.map_nil, eval_const, e5]; done) | (simp only [List.map_toArray, List.map_cons, List.map_nil, eval_const, e5]; rfl)) kr (hK _ _ rfl hG (Below.refl _ _))
   · refine g0 fun hp K hK => ?_; exact st_build rfl (m_27) kr (hK _ _ rfl hG (Below.refl _ _))
   · refine g0 fun hp K hK => ?_; have e7 : b.eval (.tmp 7) = _ := i7.trans (hp 3 kr); exact st_build rfl (by first | (simp only [List.map_toArray, List.map_cons, List.map_nil, eval_const, e7]; done) | (simp only [List.map_toArray, List.map_cons, List.map_nil, eval_const, e7]; rfl)) kr (hK _ _ rfl hG (Below.refl _ _))
   · refine g0 fun hp K hK => ?_; have e4 : b.eval (.tmp 4) = _ := i4.trans (hp 0 kr); have e6 : b.eval (.tmp 6) = _ := i6.trans (hp 2 kr); have e8 : b.eval (.tmp 8) = _ := i8.trans (hp 4 kr); exact st_buildSlice rfl (by first | (simp only [List.map_toArray, List.map_cons, List.map_nil, eval_const, e4, e6, e8]; done) | (simp only [List.map_toArray, List.map_cons, List.map_nil, eval_const, e4, e6, e8]; rfl)) (bs3j _) (hK _ _ ⟨_, rfl, blk_new _ _⟩ (hG.alloc hG.size _) ((Below.refl _ _).alloc (Nat.le_refl _) _))
   · refine g0 fun hp K hK => ?_; have q5 : ∃ g, (vs 5) = .slice (some ⟨g, 0, none⟩) 3 3 ∧ W.heap[g]? = some (.cells row3j 34 (0, 0)) := hp 5 kr; obtain ⟨g, hv, hg⟩ := q5; have e9 := i9.trans hv; refine st_call rfl (m_65) kr ?_; refine (words_good (some ⟨g, 0, none⟩) 3 L3 0 _ (by decide) (by decide) (fun x hx => (L3_okx x hx).1) (fun x hx => (L3_okx x hx).2) (C_row3j hg) L3_ok (fun far i hi => kinds_of L3_ok i hi)).mono ?_; rintro e w' ⟨far, v, rfl, hR, hgf, hb'⟩; have hR0 := Kd.R_lower hR (Nat.zero_le _); exact ⟨_, rfl, hK _ _ ⟨_, _, rfl, hR0, hgf⟩ (below_step hG hb') hb'⟩
 intro vs W hG hp b hb
 have q0 : vs 0 = _ := hp 0 kd
 have q1 : vs 1 = _ := hp 1 kd
 have q2 : vs 2 = _ := hp 2 kd
 have q3 : vs 3 = _ := hp 3 kd
 have q4 : vs 4 = _ := hp 4 kd
 have q5 : ∃ g, (vs 5) = .slice (some ⟨g, 0, none⟩) 3 3 ∧ W.heap[g]? = some (.cells row3j 34 (0, 0)) := hp 5 kd
 have q6 : ∃ far v, (vs 6) = .tuple #[v, .int .i64 0] ∧ Kd.R (Kd.int .u32) 42 W 0 (fun _ => True) v (wl (L3) far (L3).length) ∧ (good (L3) far ∧ FI (L3) far) := hp 6 kd
 clear hp
 simp only [fillS, Nat.reduceAdd, Nat.zero_add, q0, q1, q2, q3, q4] at hb
 subst hb
 simp only [List.append_eq, List.cons_append, List.nil_append, List.drop_succ_cons, List.drop_zero]
 clear q0 q1 q2 q3 q4
 clear q5
 obtain ⟨far, v, hv, hR, hgf⟩ := q6
 rw [hv]
 clear hv
 rw [L3_wl hgf.2] at hR
 obtain ⟨Aw, cw, rfl, hcw, hCw⟩ := Kd.R_reads hR
 have HG := Lib.hid (And.intro hG hCw)
 have Hc := Lib.hid hcw
 clear hG hCw hcw hR hgf
 go_wp2
 have hG := HG.out
 clear HG
 refine HK2.out _ _ ?_; clear HK2
 refine wp_seq_h fun K3 HK3 => ?_
 refine wp_listed (R := fun W W' => Below W.heap.size W W') 7 [.val (.int .i64 0), .val (.bool (0 == 0)), .val (.bool (0 == 0)), .val ((bif ((0 == 0) == true) then (.slice Aw [19, 4292866159].length cw) else undef)), ⟨fun v W => ∃ g, v = .slice (some ⟨g, 0, none⟩) 2 2 ∧ W.heap[g]? = some (.cells #[.int .u32 19, .int .u32 4292866159] 42 (0, 0)), fun _ _ _ ⟨g, h1, h2⟩ hb => ⟨g, h1, blk_below h2 hb⟩⟩, .val ((bif ((0 == 0) == true) then (.bool true) else undef)), .val (.bool ((0 == 0) && true))] (fun W => Below w.heap.size w W ∧ Kd.C (Kd.int .u32) W Aw [19, 4292866159].length [19, 4292866159]) kr hG ?_ ?_
 · intro vs W hG b hb
   have e1 : b.eval (.tmp 1) = .slice Aw [19, 4292866159].length cw := eo_ hb
   have e2 : b.eval (.tmp 2) = .int .i64 0 := eo_ hb
   have i13 := ei_ 13 hb 0
   have i14 := ei_ 14 hb 1
   have i15 := ei_ 15 hb 2
   have i16 := ei_ 16 hb 3
   have i17 := ei_ 17 hb 4
   have i18 := ei_ 18 hb 5
   clear hb
   refine And.intro ?_ (And.intro ?_ (And.intro ?_ (And.intro ?_ (And.intro ?_ (And.intro ?_ (And.intro ?_ (trivial)))))))
   · refine g0 fun hp K hK => ?_; exact st_move (.inl rfl) (e2) (hK _ _ rfl hG (Below.refl _ _))
   · refine g0 fun hp K hK => ?_; have e13 : b.eval (.tmp 13) = _ := i13.trans (hp 0 kr); exact st_bin rfl (e13) (eval_const _) b_eql (hK _ _ rfl hG (Below.refl _ _))
   · refine g0 fun hp K hK => ?_; have e14 : b.eval (.tmp 14) = _ := i14.trans (hp 1 kr); exact st_move (.inl rfl) (e14) (hK _ _ rfl hG (Below.refl _ _))
   · intro hp K hK; refine g_is (j := 2) (want := true) (c := 0 == 0) rfl (yielded_of (d := 15) rfl rfl (i15.trans (hp 2 kr))) (fun hb => ?_) (fun hb => hK _ _ (cond_no hb) hG (Below.refl _ _)); exact st_move (.inl rfl) (e1) (hK _ _ (cond_yes hb).symm hG (Below.refl _ _))
   · intro hp K hK; refine g_is (j := 2) (want := true) (c := 0 == 0) rfl (yielded_of (d := 15) rfl rfl (i15.trans (hp 2 kr))) (fun hb => ?_) (fun hb => absurd rfl hb); exact st_buildSlice rfl (m_27) (bs2w _) (hK _ _ ⟨_, rfl, blk_new _ _⟩ ⟨hG.1.alloc hG.1.size _, Kd.C_below hG.2 ((Below.refl _ _).alloc (Nat.le_refl _) _)⟩ ((Below.refl _ _).alloc (Nat.le_refl _) _))
   · intro hp K hK; refine g_is (j := 2) (want := true) (c := 0 == 0) rfl (yielded_of (d := 15) rfl rfl (i15.trans (hp 2 kr))) (fun hb => ?_) (fun hb => hK _ _ (cond_no hb) hG (Below.refl _ _)); have e16 : b.eval (.tmp 16) = _ := i16.trans (hp 3 kr); replace e16 := e16.trans (cond_yes hb); have q4 : ∃ g, (vs 4) = .slice (some ⟨g, 0, none⟩) 2 2 ∧ W.heap[g]? = some (.cells #[.int .u32 19, .int .u32 4292866159] 42 (0, 0)) := hp 4 kr; obtain ⟨g, hv, hg⟩ := q4; have e17 := i17.trans hv; refine st_call rfl (by first | (simp only [List.map_toArray, List.map_cons, List.map_nil, eval_const, e16, e17]; done) | (simp only [List.map_toArray, List.map_cons, List.map_nil, eval_const, e16, e17]; rfl)) kr ?_; refine (d11S.calls 9 Aw cw [19, 4292866159] (some ⟨g, 0, none⟩) 2 [19, 4292866159] true _ hG.2 Hc.out (C_two_w hg) (by decide) same_two).mono ?_; rintro e w' ⟨rfl, hd⟩; have hb' := below_drawn hd; exact ⟨_, rfl, hK _ _ (cond_yes hb).symm ⟨below_step hG.1 hb', Kd.C_below hG.2 hb'⟩ hb'⟩
   · refine g0 fun hp K hK => ?_; have e15 : b.eval (.tmp 15) = _ := i15.trans (hp 2 kr); have e18 : b.eval (.tmp 18) = _ := i18.trans (hp 5 kr); exact st_pick rfl (e15) (by first | (rw [e18]; exact pick_and) | (rw [show b.eval (Operand.tmp 18) = _ from eval_const _]; exact pick_and)) (hK _ _ rfl hG (Below.refl _ _))
 intro vs W hG hp b hb
 have q4 : ∃ g, (vs 4) = .slice (some ⟨g, 0, none⟩) 2 2 ∧ W.heap[g]? = some (.cells #[.int .u32 19, .int .u32 4292866159] 42 (0, 0)) := hp 4 kd
 have q6 : vs 6 = _ := hp 6 kd
 clear hp
 simp only [fillS, Nat.reduceAdd, Nat.zero_add, q6] at hb
 subst hb
 simp only [List.append_eq, List.cons_append, List.nil_append, List.drop_succ_cons, List.drop_zero]
 clear q6
 have hc : ((0 == 0) && true) = true := rfl
 rw [hc]
 clear hc
 have HG := Lib.hid hG.1
 clear hG
 go_wp2
 refine HK3.out _ _ ?_; clear HK3
 go_wp2
 go_ret
 exact ⟨rfl, HG.out⟩
theorem far_one {l : List S34} {f g : Nat → Bool} (h1 : good l f) (h2 : FI l f) (h3 : good l g) (h4 : FI l g) : f = g := by
 funext i
 have a := h2.2 g h3 i
 have b := h4.2 f h1 i
 cases hf : f i <;> cases hg : g i
 · rfl
 · rw [hf] at b; exact absurd (b hg) (by decide)
 · rw [hg] at a; exact absurd (a hf) (by decide)
 · rfl
theorem len39 {a : Option Addr} {n c : Nat} (cs : Array Bool) (W : World) : (builtin .len #[39] 3 cs #[.slice a n c]).run Try.prog W = .ok (.value (.int .i64 (n : Int))) W := by kernel_rfl
theorem ix39 {ad : Addr} {n c i : Nat} (h : i < n) (W : World) : (Instr.indexAt 39 (.slice (some ad) n c) (.int .i64 (i : Int))).run Try.prog W = .ok (.pointer (some (ad.add i))) W := by
 have e : (sizeOf (Try.prog.elem 39)).run Try.prog W = .ok 1 W := by kernel_rfl
 rw [run_indexAt_slice W 39 ad n c .i64 i kr, if_pos ⟨by omega, by omega⟩, e]
 simp only [Result.andThen_ok, Int.toNat_natCast, Nat.mul_one]
theorem ld_w {W : World} {A : Option Addr} {l : List Int} (h : Kd.C (Kd.int .u32) W A l.length l) {i : Nat} {x : Int} (hi : l[i]? = some x) : ∃ ad, A = some ad ∧ W.cell? (ad.add i) = some (.int .u32 x) := by
 have hlt : i < l.length := (List.getElem?_eq_some_iff.1 hi).1
 obtain ⟨ad, c, e, _, hK, hc⟩ := Kd.C_get h 0 (i : Int) (by omega) (by omega)
 rw [Int.toNat_natCast] at hK hc
 have hx : l.getD i 0 = x := by simp [List.getD, hi]
 rw [hx] at hK
 obtain rfl : c = [.int .u32 x] := hK
 refine ⟨ad, e, ?_⟩
 have := hc 0 _ rfl
 simpa [Kd.int, Kd.scalar] using this
set_option maxHeartbeats 16000000 in
theorem all_law (A : Option Addr) (c : Nat) (l : List S48) (w : World) (hc : l.length ≤ c) (hl : ∀ y ∈ l, okx y.f1) (hC : Kd.C k48 w A l.length l) :
 Calls Try.prog 5 #[.slice A l.length c] w fun e w' => e = .returned (.bool true) ∧ Below w.heap.size w w' := by
 obtain ⟨x, hx, hn, hok⟩ := items_is l hl
 have HC := Lib.hid hC
 have HN := Lib.hid hn
 have HO := Lib.hid hok
 clear hC hn hok
 go_enter Try.func5, Try.ntmps5
 refine wp_seq_h fun K1 HK1 => ?_
 refine wp_listed (R := fun W W' => Below W.heap.size W W') 1 [.val (.bool false)] (fun W => Below w.heap.size w W) kr (Below.refl _ _) ?_ ?_
 · intro vs W hG b hb
   clear hb
   refine And.intro ?_ (trivial)
   · refine g0 fun hp K hK => ?_; exact st_move (.inr rfl) (eval_const _) (hK _ _ rfl hG (Below.refl _ _))
 intro vs W hG hp b hb
 have q0 : vs 0 = _ := hp 0 kd
 clear hp
 simp only [fillS, Nat.reduceAdd, Nat.zero_add, q0] at hb
 subst hb
 refine wpList_nil ?_
 clear q0
 refine HK1.out _ _ ?_; clear HK1
 refine wp_seq_h fun K2 HK2 => ?_
 refine wp_listed (R := fun W W' => Below W.heap.size W W') 3 [.val (.slice A l.length c), rowS (x) w.heap.size, rowS (x) w.heap.size] (fun W => Below w.heap.size w W) kr hG ?_ ?_
 · intro vs W hG b hb
   have e0 : b.eval (.tmp 0) = .slice A l.length c := eo_ hb
   have i12 := ei_ 12 hb 0
   have i13 := ei_ 13 hb 1
   clear hb
   refine And.intro ?_ (And.intro ?_ (And.intro ?_ (trivial)))
   · refine g0 fun hp K hK => ?_; exact st_move (.inl rfl) (e0) (hK _ _ rfl hG (Below.refl _ _))
   · refine g0 fun hp K hK => ?_; have e12 : b.eval (.tmp 12) = _ := i12.trans (hp 0 kr); refine st_call rfl (m_46) kr ?_; refine (l13I.calls 4200 A c l x _ (Kd.C_below HC.out hG) hc hx).mono ?_; rintro e w' ⟨v, rfl, hR, hb'⟩; obtain ⟨A2, c2, rfl, hc, hC⟩ := Kd.R_reads hR; exact ⟨_, rfl, hK _ _ ⟨_, _, rfl, hc, hC⟩ (below_step hG hb') hb'⟩
   · refine g0 fun hp K hK => ?_; have q1 : ∃ A c, (vs 1) = .slice A (x).length c ∧ (x).length ≤ c ∧ Kd.C k34 W A (x).length (x) := hp 1 kr; obtain ⟨A, c, hv, hc, hC⟩ := q1; have e13 := i13.trans hv; exact st_move (.inr rfl) (e13) (hK _ _ ⟨_, _, rfl, hc, hC⟩ hG (Below.refl _ _))
 intro vs W hG hp b hb
 have q0 : vs 0 = _ := hp 0 kd
 have q1 : ∃ A c, (vs 1) = .slice A (x).length c ∧ (x).length ≤ c ∧ Kd.C k34 W A (x).length (x) := hp 1 kd
 have q2 : ∃ A c, (vs 2) = .slice A (x).length c ∧ (x).length ≤ c ∧ Kd.C k34 W A (x).length (x) := hp 2 kd
 clear hp
 simp only [fillS, Nat.reduceAdd, Nat.zero_add, q0] at hb
 subst hb
 refine wpList_nil ?_
 clear q0
 clear q1
 obtain ⟨Ax, cx, hv, hcx, hCx⟩ := q2
 rw [hv]
 clear hv
 replace hG := And.intro hG hCx
 clear hCx
 refine HK2.out _ _ ?_; clear HK2
 by_cases ho : okL x
 rotate_left
 · skip
   refine wp_seq_h fun K3 HK3 => ?_
   refine wp_listed (R := fun W W' => Below W.heap.size W W') 7 [.val (.slice Ax x.length cx), errSpec (fun k => .tuple #[.slice none 0 0, .int .i64 k]), errSpec (fun k => .tuple #[.slice none 0 0, .int .i64 k]), .val (.slice none 0 0), errSpec (fun k => .int .i64 k), .val (.slice none 0 0), errSpec (fun k => .int .i64 k)] (fun W => Below w.heap.size w W ∧ Kd.C k34 W Ax x.length x) kr hG ?_ ?_
   · intro vs W hG b hb
     have e3 : b.eval (.tmp 3) = .slice Ax x.length cx := eo_ hb
     have i14 := ei_ 14 hb 2
     have i15 := ei_ 15 hb 0
     have i16 := ei_ 16 hb 1
     have i17 := ei_ 17 hb 3
     have i18 := ei_ 18 hb 4
     clear hb
     refine And.intro ?_ (And.intro ?_ (And.intro ?_ (And.intro ?_ (And.intro ?_ (And.intro ?_ (And.intro ?_ (trivial)))))))
     · refine g0 fun hp K hK => ?_; exact st_move (.inl rfl) (e3) (hK _ _ rfl hG (Below.refl _ _))
     · refine g0 fun hp K hK => ?_; have e15 : b.eval (.tmp 15) = _ := i15.trans (hp 0 kr); refine st_call rfl (m_61) kr ?_; refine (words_bad Ax cx x 0 _ (by decide) HN.out (fun x hx => (HO.out x hx).1) (fun x hx => (HO.out x hx).2) hG.2 ho).mono ?_; rintro e w' ⟨k, hk, rfl, hb'⟩; exact ⟨_, rfl, hK _ _ ⟨_, hk, rfl⟩ ⟨below_step hG.1 hb', Kd.C_below hG.2 hb'⟩ hb'⟩
     · refine g0 fun hp K hK => ?_; have q1 : ∃ k : Int, k ≠ 0 ∧ (vs 1) = .tuple #[.slice none 0 0, .int .i64 k] := hp 1 kr; obtain ⟨k, hk, hv⟩ := q1; have e16 := i16.trans hv; exact st_move (.inl rfl) (e16) (hK _ _ ⟨_, hk, rfl⟩ hG (Below.refl _ _))
     · refine g0 fun hp K hK => ?_; have q2 : ∃ k : Int, k ≠ 0 ∧ (vs 2) = .tuple #[.slice none 0 0, .int .i64 k] := hp 2 kr; obtain ⟨k, hk, hv⟩ := q2; have e14 := i14.trans hv; exact st_extract rfl (e14) kr (hK _ _ rfl hG (Below.refl _ _))
     · refine g0 fun hp K hK => ?_; have q2 : ∃ k : Int, k ≠ 0 ∧ (vs 2) = .tuple #[.slice none 0 0, .int .i64 k] := hp 2 kr; obtain ⟨k, hk, hv⟩ := q2; have e14 := i14.trans hv; exact st_extract rfl (e14) kr (hK _ _ ⟨_, hk, rfl⟩ hG (Below.refl _ _))
     · refine g0 fun hp K hK => ?_; have e17 : b.eval (.tmp 17) = _ := i17.trans (hp 3 kr); exact st_move (.inr rfl) (e17) (hK _ _ rfl hG (Below.refl _ _))
     · refine g0 fun hp K hK => ?_; have q4 : ∃ k : Int, k ≠ 0 ∧ (vs 4) = .int .i64 k := hp 4 kr; obtain ⟨k, hk, hv⟩ := q4; have e18 := i18.trans hv; exact st_move (.inr rfl) (e18) (hK _ _ ⟨_, hk, rfl⟩ hG (Below.refl _ _))
   intro vs W hG hp b hb
   have q1 : ∃ k : Int, k ≠ 0 ∧ (vs 1) = .tuple #[.slice none 0 0, .int .i64 k] := hp 1 kd
   have q2 : ∃ k : Int, k ≠ 0 ∧ (vs 2) = .tuple #[.slice none 0 0, .int .i64 k] := hp 2 kd
   have q4 : ∃ k : Int, k ≠ 0 ∧ (vs 4) = .int .i64 k := hp 4 kd
   have q5 : vs 5 = _ := hp 5 kd
   have q6 : ∃ k : Int, k ≠ 0 ∧ (vs 6) = .int .i64 k := hp 6 kd
   clear hp
   simp only [fillS, Nat.reduceAdd, Nat.zero_add, q5] at hb
   subst hb
   refine wpList_nil ?_
   clear q5
   clear q1 q2 q4
   obtain ⟨k, hk, hv⟩ := q6
   rw [hv]
   clear hv
   refine HK3.out _ _ ?_; clear HK3
   refine wp_seq_h fun K4 HK4 => ?_
   refine wp_seq_h fun K5 HK5 => ?_
   refine wp_listed (R := fun W W' => Below W.heap.size W W') 2 [.val (.int .i64 k), .val (.bool (k != 0))] (fun W => Below w.heap.size w W ∧ Kd.C k34 W Ax x.length x) kr hG ?_ ?_
   · intro vs W hG b hb
     have e5 : b.eval (.tmp 5) = .int .i64 k := eo_ hb
     have i19 := ei_ 19 hb 0
     clear hb
     refine And.intro ?_ (And.intro ?_ (trivial))
     · refine g0 fun hp K hK => ?_; exact st_move (.inl rfl) (e5) (hK _ _ rfl hG (Below.refl _ _))
     · refine g0 fun hp K hK => ?_; have e19 : b.eval (.tmp 19) = _ := i19.trans (hp 0 kr); exact st_bin rfl (e19) (eval_const _) b_neq (hK _ _ rfl hG (Below.refl _ _))
   intro vs W hG hp b hb
   have q1 : vs 1 = _ := hp 1 kd
   clear hp
   simp only [fillS, Nat.reduceAdd, Nat.zero_add, q1] at hb
   subst hb
   refine wpList_nil ?_
   clear q1
   refine HK5.out _ _ ?_; clear HK5
   have hd : (k != 0) = true := by simpa using hk
   rw [hd]
   clear hd
   apply wp_cond_true rfl
   refine wp_seq_h fun K6 HK6 => ?_
   refine wp_listed (R := fun W W' => Below W.heap.size W W') 6 [.val (.slice none 0 0), .val (.int .i64 ((0 : Nat) : Int)), .val (.bool (((0 : Nat) : Int) == 0)), .val (.bool (((0 : Nat) : Int) == 0)), .val ((bif ((((0 : Nat) : Int) == 0) == true) then (.bool true) else undef)), .val (.bool ((((0 : Nat) : Int) == 0) && true))] (fun W => Below w.heap.size w W ∧ Kd.C k34 W Ax x.length x) kr hG ?_ ?_
   · intro vs W hG b hb
     have e4 : b.eval (.tmp 4) = .slice none 0 0 := eo_ hb
     have i21 := ei_ 21 hb 0
     have i22 := ei_ 22 hb 1
     have i23 := ei_ 23 hb 2
     have i24 := ei_ 24 hb 3
     have i25 := ei_ 25 hb 4
     clear hb
     refine And.intro ?_ (And.intro ?_ (And.intro ?_ (And.intro ?_ (And.intro ?_ (And.intro ?_ (trivial))))))
     · refine g0 fun hp K hK => ?_; exact st_move (.inl rfl) (e4) (hK _ _ rfl hG (Below.refl _ _))
     · refine g0 fun hp K hK => ?_; have e21 : b.eval (.tmp 21) = _ := i21.trans (hp 0 kr); exact st_builtin rfl (by first | (simp only [List.map_toArray, List.map_cons, List.map_nil, eval_const, e21]; done) | (simp only [List.map_toArray, List.map_cons, List.map_nil, eval_const, e21]; rfl)) (fun cs => len39 cs _) (hK _ _ rfl hG (Below.refl _ _))
     · refine g0 fun hp K hK => ?_; have e22 : b.eval (.tmp 22) = _ := i22.trans (hp 1 kr); exact st_bin rfl (e22) (eval_const _) b_eql (hK _ _ rfl hG (Below.refl _ _))
     · refine g0 fun hp K hK => ?_; have e23 : b.eval (.tmp 23) = _ := i23.trans (hp 2 kr); exact st_move (.inl rfl) (e23) (hK _ _ rfl hG (Below.refl _ _))
     · intro hp K hK; refine g_is (j := 3) (want := true) (c := ((0 : Nat) : Int) == 0) rfl (yielded_of (d := 24) rfl rfl (i24.trans (hp 3 kr))) (fun hb => ?_) (fun hb => hK _ _ (cond_no hb) hG (Below.refl _ _)); refine st_call rfl (m_27) kr ?_; refine (asm_lives _).mono ?_; rintro e w' ⟨rfl, hb'⟩; exact ⟨_, rfl, hK _ _ (cond_yes hb).symm ⟨below_step hG.1 hb', Kd.C_below hG.2 hb'⟩ hb'⟩
     · refine g0 fun hp K hK => ?_; have e24 : b.eval (.tmp 24) = _ := i24.trans (hp 3 kr); have e25 : b.eval (.tmp 25) = _ := i25.trans (hp 4 kr); exact st_pick rfl (e24) (by first | (rw [e25]; exact pick_and) | (rw [show b.eval (Operand.tmp 25) = _ from eval_const _]; exact pick_and)) (hK _ _ rfl hG (Below.refl _ _))
   intro vs W hG hp b hb
   have q5 : vs 5 = _ := hp 5 kd
   clear hp
   simp only [fillS, Nat.reduceAdd, Nat.zero_add, q5] at hb
   subst hb
   simp only [List.append_eq, List.cons_append, List.nil_append, List.drop_succ_cons, List.drop_zero]
   clear q5
   have hc : ((((0 : Nat) : Int) == 0) && true) = true := rfl
   rw [hc]
   clear hc
   have HG := Lib.hid hG.1
   clear hG
   go_wp2
   refine HK6.out _ _ ?_; clear HK6
   go_wp2
   go_ret
   exact ⟨rfl, HG.out⟩
 refine wp_seq_h fun K7 HK7 => ?_
 refine wp_listed (R := fun W W' => Below W.heap.size W W') 2 [.val (.slice Ax x.length cx), wordS (x)] (fun W => Below w.heap.size w W ∧ Kd.C k34 W Ax x.length x) kr hG ?_ ?_
 · intro vs W hG b hb
   have e3 : b.eval (.tmp 3) = .slice Ax x.length cx := eo_ hb
   have i15 := ei_ 15 hb 0
   clear hb
   refine And.intro ?_ (And.intro ?_ (trivial))
   · refine g0 fun hp K hK => ?_; exact st_move (.inl rfl) (e3) (hK _ _ rfl hG (Below.refl _ _))
   · refine g0 fun hp K hK => ?_; have e15 : b.eval (.tmp 15) = _ := i15.trans (hp 0 kr); refine st_call rfl (m_61) kr ?_; refine (words_good Ax cx x 0 _ (by decide) HN.out (fun x hx => (HO.out x hx).1) (fun x hx => (HO.out x hx).2) hG.2 ho (fun far i hi => kinds_of ho i hi)).mono ?_; rintro e w' ⟨far, v, rfl, hR, hgf, hb'⟩; have hR0 := Kd.R_lower hR (Nat.zero_le _); exact ⟨_, rfl, hK _ _ ⟨_, _, rfl, hR0, hgf⟩ ⟨below_step hG.1 hb', Kd.C_below hG.2 hb'⟩ hb'⟩
 intro vs W hG hp b hb
 have q0 : vs 0 = _ := hp 0 kd
 have q1 : ∃ far v, (vs 1) = .tuple #[v, .int .i64 0] ∧ Kd.R (Kd.int .u32) 42 W 0 (fun _ => True) v (wl (x) far (x).length) ∧ (good (x) far ∧ FI (x) far) := hp 1 kd
 clear hp
 simp only [fillS, Nat.reduceAdd, Nat.zero_add, q0] at hb
 subst hb
 simp only [List.append_eq, List.cons_append, List.nil_append, List.drop_succ_cons, List.drop_zero]
 clear q0
 obtain ⟨far, v, hv, hR, hgf⟩ := q1
 rw [hv]
 clear hv
 obtain ⟨Aw, cw, rfl, hcw, hCw⟩ := Kd.R_reads hR
 clear hR hcw
 have hwb := wl_beg ho hgf.2 x.length (Nat.le_refl _)
 have hwk := wl_ok ho HN.out (fun x hx => (HO.out x hx).2) hgf.1 hgf.2 x.length (Nat.le_refl _)
 generalize wl x far x.length = ws at hCw hwb hwk ⊢
 have HWK := Lib.hid hwk
 have HWB := Lib.hid hwb
 have HGF := Lib.hid hgf
 clear hwk hwb hgf
 obtain ⟨W0, hW0⟩ : ∃ W0, W0 = W := ⟨W, rfl⟩
 have HX := Lib.hid (show Kd.C k34 W0 Ax x.length x by rw [hW0]; exact hG.2)
 have HCW := Lib.hid (show Kd.C (Kd.int .u32) W0 Aw ws.length ws by rw [hW0]; exact hCw)
 have HW := Lib.hid (show Below w.heap.size w W0 by rw [hW0]; exact hG.1)
 clear hG hCw
 have hG : Below W0.heap.size W0 W := by rw [hW0]; exact Below.refl _ _
 clear hW0
 have HGG := Lib.hid hG
 clear hG
 go_wp2
 have hG := HGG.out
 clear HGG
 refine HK7.out _ _ ?_; clear HK7
 refine wp_seq_h fun K8 HK8 => ?_
 refine wp_seq_h fun K9 HK9 => ?_
 refine wp_listed (R := fun W W' => Below W.heap.size W W') 2 [.val (.int .i64 0), .val (.bool (0 != 0))] (fun W => Below W0.heap.size W0 W) kr hG ?_ ?_
 · intro vs W hG b hb
   have e5 : b.eval (.tmp 5) = .int .i64 0 := eo_ hb
   have i19 := ei_ 19 hb 0
   clear hb
   refine And.intro ?_ (And.intro ?_ (trivial))
   · refine g0 fun hp K hK => ?_; exact st_move (.inl rfl) (e5) (hK _ _ rfl hG (Below.refl _ _))
   · refine g0 fun hp K hK => ?_; have e19 : b.eval (.tmp 19) = _ := i19.trans (hp 0 kr); exact st_bin rfl (e19) (eval_const _) b_neq (hK _ _ rfl hG (Below.refl _ _))
 intro vs W hG hp b hb
 have q1 : vs 1 = _ := hp 1 kd
 clear hp
 simp only [fillS, Nat.reduceAdd, Nat.zero_add, q1] at hb
 subst hb
 refine wpList_nil ?_
 clear q1
 refine HK9.out _ _ ?_; clear HK9
 apply wp_cond_false rfl
 apply wp_skip
 simp only [Exit.then]
 refine HK8.out _ _ ?_; clear HK8
 obtain ⟨kf, far2, hlay, hg2, hF2⟩ := layout_ref HN.out (fun x hx => (HO.out x hx).2) ho
 obtain rfl := far_one HGF.out.1 HGF.out.2 hg2 hF2
 clear hg2 hF2
 refine wp_seq_h fun K10 HK10 => ?_
 refine wp_listed (R := fun W W' => Below W.heap.size W W') 2 [.val (.slice Ax x.length cx), docS x far] (fun W => Below W0.heap.size W0 W) kr hG ?_ ?_
 · intro vs W hG b hb
   have e3 : b.eval (.tmp 3) = .slice Ax x.length cx := eo_ hb
   have i28 := ei_ 28 hb 0
   clear hb
   refine And.intro ?_ (And.intro ?_ (trivial))
   · refine g0 fun hp K hK => ?_; exact st_move (.inl rfl) (e3) (hK _ _ rfl hG (Below.refl _ _))
   · refine g0 fun hp K hK => ?_; have e28 : b.eval (.tmp 28) = _ := i28.trans (hp 0 kr); refine st_call rfl (by first | (simp only [List.map_toArray, List.map_cons, List.map_nil, eval_const, e28]; done) | (simp only [List.map_toArray, List.map_cons, List.map_nil, eval_const, e28]; rfl)) kr ?_; refine (d13L.calls kf Ax cx x _ _ _ _ (Kd.C_below HX.out hG) hcx hlay).mono ?_; rintro e w' ⟨v0, v1, rfl, hR0, hR1, hb'⟩; replace hR0 := Kd.R_lower hR0 (Nat.zero_le _); replace hR1 := Kd.R_lower hR1 (Nat.zero_le _); exact ⟨_, rfl, hK _ _ ⟨_, _, rfl, hR0, hR1⟩ (below_step hG hb') hb'⟩
 intro vs W hG hp b hb
 have q0 : vs 0 = _ := hp 0 kd
 have q1 : ∃ v0 v1, (vs 1) = .tuple #[v0, v1, .int .i64 0] ∧ Kd.R (Kd.int .i64) 3 W 0 (fun _ => True) v0 (begs x far (x.length + 1)) ∧ Kd.R Kd.bool 4 W 0 (fun _ => True) v1 (farL far x.length) := hp 1 kd
 clear hp
 simp only [fillS, Nat.reduceAdd, Nat.zero_add, q0] at hb
 subst hb
 simp only [List.append_eq, List.cons_append, List.nil_append, List.drop_succ_cons, List.drop_zero]
 clear q0
 obtain ⟨v0, v1, hv, hR0, -⟩ := q1
 rw [hv]
 clear hv
 obtain ⟨Ab, cb, hvb, hcb, hCb⟩ := Kd.R_reads hR0
 rw [begs_len] at hvb hcb hCb
 subst hvb
 obtain ⟨adb, hAb, -⟩ := ld_beg hCb (Nat.lt_succ_self _)
 subst hAb
 clear hR0 hcb
 have HGG := Lib.hid (And.intro hG hCb)
 clear hG hCb
 go_wp2
 have hG := HGG.out
 clear HGG
 refine HK10.out _ _ ?_; clear HK10
 refine wp_seq_h fun K11 HK11 => ?_
 refine wp_seq_h fun K12 HK12 => ?_
 have hbn := beg_in x far x.length
 refine wp_listed (R := fun W W' => Below W.heap.size W W') 15 [.val (.slice (some adb) (x.length + 1) cb), .val (.int .i64 ((x.length + 1 : Nat) : Int)), .val (.bool (((x.length + 1 : Nat) : Int) == 0)), .val (.bool (((x.length + 1 : Nat) : Int) == 0)), .val ((bif ((((x.length + 1 : Nat) : Int) == 0) == false) then (.slice Aw ws.length cw) else undef)), .val ((bif ((((x.length + 1 : Nat) : Int) == 0) == false) then (.int .i64 ((ws.length : Nat) : Int)) else undef)), .val ((bif ((((x.length + 1 : Nat) : Int) == 0) == false) then (.int .i64 (beg x far x.length)) else undef)), .val ((bif ((((x.length + 1 : Nat) : Int) == 0) == false) then (.slice (some adb) (x.length + 1) cb) else undef)), .val ((bif ((((x.length + 1 : Nat) : Int) == 0) == false) then (.slice (some adb) (x.length + 1) cb) else undef)), .val ((bif ((((x.length + 1 : Nat) : Int) == 0) == false) then (.int .i64 ((x.length + 1 : Nat) : Int)) else undef)), .val ((bif ((((x.length + 1 : Nat) : Int) == 0) == false) then (.int .i64 (x.length : Int)) else undef)), .val ((bif ((((x.length + 1 : Nat) : Int) == 0) == false) then (.pointer (some (adb.add x.length))) else undef)), .val ((bif ((((x.length + 1 : Nat) : Int) == 0) == false) then (.int .i64 (beg x far x.length)) else undef)), .val ((bif ((((x.length + 1 : Nat) : Int) == 0) == false) then (.bool ((beg x far x.length) != (beg x far x.length))) else undef)), .val (.bool ((((x.length + 1 : Nat) : Int) == 0) || ((beg x far x.length) != (beg x far x.length))))] (fun W => Below W0.heap.size W0 W ∧ Kd.C (Kd.int .i64) W (some adb) (x.length + 1) (begs x far (x.length + 1))) kr hG ?_ ?_
 · intro vs W hG b hb
   have e4 : b.eval (.tmp 4) = .slice Aw ws.length cw := eo_ hb
   have e6 : b.eval (.tmp 6) = .slice (some adb) (x.length + 1) cb := eo_ hb
   have i33 := ei_ 33 hb 0
   have i34 := ei_ 34 hb 1
   have i35 := ei_ 35 hb 2
   have i36 := ei_ 36 hb 3
   have i37 := ei_ 37 hb 4
   have i38 := ei_ 38 hb 5
   have i39 := ei_ 39 hb 6
   have i40 := ei_ 40 hb 7
   have i41 := ei_ 41 hb 8
   have i42 := ei_ 42 hb 9
   have i43 := ei_ 43 hb 10
   have i44 := ei_ 44 hb 11
   have i45 := ei_ 45 hb 12
   have i46 := ei_ 46 hb 13
   clear hb
   refine And.intro ?_ (And.intro ?_ (And.intro ?_ (And.intro ?_ (And.intro ?_ (And.intro ?_ (And.intro ?_ (And.intro ?_ (And.intro ?_ (And.intro ?_ (And.intro ?_ (And.intro ?_ (And.intro ?_ (And.intro ?_ (And.intro ?_ (trivial)))))))))))))))
   · refine g0 fun hp K hK => ?_; exact st_move (.inl rfl) (e6) (hK _ _ rfl hG (Below.refl _ _))
   · refine g0 fun hp K hK => ?_; have e33 : b.eval (.tmp 33) = _ := i33.trans (hp 0 kr); exact st_builtin rfl (by first | (simp only [List.map_toArray, List.map_cons, List.map_nil, eval_const, e33]; done) | (simp only [List.map_toArray, List.map_cons, List.map_nil, eval_const, e33]; rfl)) (fun cs => b_len 25 (by decide) cs _) (hK _ _ rfl hG (Below.refl _ _))
   · refine g0 fun hp K hK => ?_; have e34 : b.eval (.tmp 34) = _ := i34.trans (hp 1 kr); exact st_bin rfl (e34) (eval_const _) b_eql (hK _ _ rfl hG (Below.refl _ _))
   · refine g0 fun hp K hK => ?_; have e35 : b.eval (.tmp 35) = _ := i35.trans (hp 2 kr); exact st_move (.inl rfl) (e35) (hK _ _ rfl hG (Below.refl _ _))
   · intro hp K hK; refine g_is (j := 3) (want := false) (c := ((x.length + 1 : Nat) : Int) == 0) rfl (yielded_of (d := 36) rfl rfl (i36.trans (hp 3 kr))) (fun hb => ?_) (fun hb => hK _ _ (cond_no hb) hG (Below.refl _ _)); exact st_move (.inl rfl) (e4) (hK _ _ (cond_yes hb).symm hG (Below.refl _ _))
   · intro hp K hK; refine g_is (j := 3) (want := false) (c := ((x.length + 1 : Nat) : Int) == 0) rfl (yielded_of (d := 36) rfl rfl (i36.trans (hp 3 kr))) (fun hb => ?_) (fun hb => hK _ _ (cond_no hb) hG (Below.refl _ _)); have e37 : b.eval (.tmp 37) = _ := i37.trans (hp 4 kr); replace e37 := e37.trans (cond_yes hb); exact st_builtin rfl (by first | (simp only [List.map_toArray, List.map_cons, List.map_nil, eval_const, e37]; done) | (simp only [List.map_toArray, List.map_cons, List.map_nil, eval_const, e37]; rfl)) (fun cs => len39 cs _) (hK _ _ (cond_yes hb).symm hG (Below.refl _ _))
   · intro hp K hK; refine g_is (j := 3) (want := false) (c := ((x.length + 1 : Nat) : Int) == 0) rfl (yielded_of (d := 36) rfl rfl (i36.trans (hp 3 kr))) (fun hb => ?_) (fun hb => hK _ _ (cond_no hb) hG (Below.refl _ _)); have e38 : b.eval (.tmp 38) = _ := i38.trans (hp 5 kr); replace e38 := e38.trans (cond_yes hb); exact st_bin rfl (eval_const _) (e38) (b_mul (by rw [HWB.out]; exact IntWalk.i64_in _ (by have := HN.out; omega))) (hK _ _ (cond_yes hb).symm hG (Below.refl _ _))
   · intro hp K hK; refine g_is (j := 3) (want := false) (c := ((x.length + 1 : Nat) : Int) == 0) rfl (yielded_of (d := 36) rfl rfl (i36.trans (hp 3 kr))) (fun hb => ?_) (fun hb => hK _ _ (cond_no hb) hG (Below.refl _ _)); exact st_move (.inl rfl) (e6) (hK _ _ (cond_yes hb).symm hG (Below.refl _ _))
   · intro hp K hK; refine g_is (j := 3) (want := false) (c := ((x.length + 1 : Nat) : Int) == 0) rfl (yielded_of (d := 36) rfl rfl (i36.trans (hp 3 kr))) (fun hb => ?_) (fun hb => hK _ _ (cond_no hb) hG (Below.refl _ _)); exact st_move (.inl rfl) (e6) (hK _ _ (cond_yes hb).symm hG (Below.refl _ _))
   · intro hp K hK; refine g_is (j := 3) (want := false) (c := ((x.length + 1 : Nat) : Int) == 0) rfl (yielded_of (d := 36) rfl rfl (i36.trans (hp 3 kr))) (fun hb => ?_) (fun hb => hK _ _ (cond_no hb) hG (Below.refl _ _)); have e41 : b.eval (.tmp 41) = _ := i41.trans (hp 8 kr); replace e41 := e41.trans (cond_yes hb); exact st_builtin rfl (by first | (simp only [List.map_toArray, List.map_cons, List.map_nil, eval_const, e41]; done) | (simp only [List.map_toArray, List.map_cons, List.map_nil, eval_const, e41]; rfl)) (fun cs => b_len 25 (by decide) cs _) (hK _ _ (cond_yes hb).symm hG (Below.refl _ _))
   · intro hp K hK; refine g_is (j := 3) (want := false) (c := ((x.length + 1 : Nat) : Int) == 0) rfl (yielded_of (d := 36) rfl rfl (i36.trans (hp 3 kr))) (fun hb => ?_) (fun hb => hK _ _ (cond_no hb) hG (Below.refl _ _)); have e42 : b.eval (.tmp 42) = _ := i42.trans (hp 9 kr); replace e42 := e42.trans (cond_yes hb); exact st_bin rfl (e42) (eval_const _) (b_sub (by rw [show ((x.length + 1 : Nat) : Int) - 1 = (x.length : Int) by omega]; exact IntWalk.i64_in _ (by have := HN.out; omega))) (hK _ _ (cond_yes hb).symm hG (Below.refl _ _))
   · intro hp K hK; refine g_is (j := 3) (want := false) (c := ((x.length + 1 : Nat) : Int) == 0) rfl (yielded_of (d := 36) rfl rfl (i36.trans (hp 3 kr))) (fun hb => ?_) (fun hb => hK _ _ (cond_no hb) hG (Below.refl _ _)); have e40 : b.eval (.tmp 40) = _ := i40.trans (hp 7 kr); replace e40 := e40.trans (cond_yes hb); have e43 : b.eval (.tmp 43) = _ := i43.trans (hp 10 kr); replace e43 := e43.trans (cond_yes hb); exact st_index rfl (e40) (e43) (ix25n (Nat.lt_succ_self _) _) (hK _ _ (cond_yes hb).symm hG (Below.refl _ _))
   · intro hp K hK; refine g_is (j := 3) (want := false) (c := ((x.length + 1 : Nat) : Int) == 0) rfl (yielded_of (d := 36) rfl rfl (i36.trans (hp 3 kr))) (fun hb => ?_) (fun hb => hK _ _ (cond_no hb) hG (Below.refl _ _)); have e44 : b.eval (.tmp 44) = _ := i44.trans (hp 11 kr); replace e44 := e44.trans (cond_yes hb); exact st_load rfl (e44) (by obtain ⟨a', ha', hl'⟩ := ld_beg hG.2 (Nat.lt_succ_self _); rw [Option.some.inj ha']; exact ld_cell 3 kr hl') (hK _ _ (cond_yes hb).symm hG (Below.refl _ _))
   · intro hp K hK; refine g_is (j := 3) (want := false) (c := ((x.length + 1 : Nat) : Int) == 0) rfl (yielded_of (d := 36) rfl rfl (i36.trans (hp 3 kr))) (fun hb => ?_) (fun hb => hK _ _ (cond_no hb) hG (Below.refl _ _)); have e39 : b.eval (.tmp 39) = _ := i39.trans (hp 6 kr); replace e39 := e39.trans (cond_yes hb); have e45 : b.eval (.tmp 45) = _ := i45.trans (hp 12 kr); replace e45 := e45.trans (cond_yes hb); exact st_bin rfl (e39) (e45) b_neq (hK _ _ (cond_yes hb).symm hG (Below.refl _ _))
   · refine g0 fun hp K hK => ?_; have e36 : b.eval (.tmp 36) = _ := i36.trans (hp 3 kr); have e46 : b.eval (.tmp 46) = _ := i46.trans (hp 13 kr); exact st_pick rfl (e36) (by first | (rw [e46]; exact pick_or) | (rw [show b.eval (Operand.tmp 46) = _ from eval_const _]; exact pick_or)) (hK _ _ rfl hG (Below.refl _ _))
 intro vs W hG hp b hb
 have q14 : vs 14 = _ := hp 14 kd
 clear hp
 simp only [fillS, Nat.reduceAdd, Nat.zero_add, q14] at hb
 subst hb
 refine wpList_nil ?_
 clear q14
 refine HK12.out _ _ ?_; clear HK12
 have hc : ((((x.length + 1 : Nat) : Int) == 0) || ((beg x far x.length) != (beg x far x.length))) = false := by
  have h1 : (((x.length + 1 : Nat) : Int) == 0) = false := by
   rw [beq_eq_false_iff_ne]
   omega
  have h2 : (beg x far x.length != beg x far x.length) = false := by simp
  rw [h1, h2]
  rfl
 rw [hc]
 clear hc hbn
 apply wp_cond_false rfl
 apply wp_skip
 simp only [Exit.then]
 refine HK11.out _ _ ?_; clear HK11
 refine wp_seq_h fun K13 HK13 => ?_
 refine wp_seq_h fun K14 HK14 => ?_
 have HG := Lib.hid hG.1
 clear hG
 go_wp2
 refine HK14.out _ _ ?_; clear HK14
 apply wp_block
 refine wp_loopS [9, 10, 11, 48, 49, 50, 51, 52, 53, 54, 55, 56, 57, 58, 59, 60, 61, 62, 63] (fun sl W => ∃ i : Nat, sl 9 = .int .i64 (i : Int) ∧ i ≤ ws.length ∧ Below W0.heap.size W0 W) (fun sl W => Msr (ws.length : Int) (sl 9)) ⟨0, rfl, Nat.zero_le _, HG.out⟩ ?_
 clear HG
 intro vs W b hb hI
 obtain ⟨i, hsl, hi, hG⟩ := hI
 simp only [setSlots, Act.put, List.setIfInBounds_toArray, List.set_cons_succ, List.set_cons_zero] at hb
 subst hb
 replace hsl : vs 9 = .int .i64 (i : Int) := hsl
 rw [hsl]
 clear hsl
 refine wp_seq_h fun K15 HK15 => ?_
 refine wp_seq_h fun K16 HK16 => ?_
 refine wp_listed (R := fun W W' => Below W.heap.size W W') 4 [.val (.int .i64 (i : Int)), .val (.slice Aw ws.length cw), .val (.int .i64 ((ws.length : Nat) : Int)), .val (.bool (decide ((i : Int) < ((ws.length : Nat) : Int))))] (fun W => Below W0.heap.size W0 W) kr hG ?_ ?_
 · intro vs W hG b hb
   have e4 : b.eval (.tmp 4) = .slice Aw ws.length cw := eo_ hb
   have e9 : b.eval (.tmp 9) = .int .i64 (i : Int) := eo_ hb
   have i48 := ei_ 48 hb 0
   have i49 := ei_ 49 hb 1
   have i50 := ei_ 50 hb 2
   clear hb
   refine And.intro ?_ (And.intro ?_ (And.intro ?_ (And.intro ?_ (trivial))))
   · refine g0 fun hp K hK => ?_; exact st_move (.inl rfl) (e9) (hK _ _ rfl hG (Below.refl _ _))
   · refine g0 fun hp K hK => ?_; exact st_move (.inl rfl) (e4) (hK _ _ rfl hG (Below.refl _ _))
   · refine g0 fun hp K hK => ?_; have e49 : b.eval (.tmp 49) = _ := i49.trans (hp 1 kr); exact st_builtin rfl (by first | (simp only [List.map_toArray, List.map_cons, List.map_nil, eval_const, e49]; done) | (simp only [List.map_toArray, List.map_cons, List.map_nil, eval_const, e49]; rfl)) (fun cs => len39 cs _) (hK _ _ rfl hG (Below.refl _ _))
   · refine g0 fun hp K hK => ?_; have e48 : b.eval (.tmp 48) = _ := i48.trans (hp 0 kr); have e50 : b.eval (.tmp 50) = _ := i50.trans (hp 2 kr); exact st_bin rfl (e48) (e50) b_lss (hK _ _ rfl hG (Below.refl _ _))
 intro vs W hG hp b hb
 have q3 : vs 3 = _ := hp 3 kd
 clear hp
 simp only [fillS, Nat.reduceAdd, Nat.zero_add, q3] at hb
 subst hb
 refine wpList_nil ?_
 clear q3
 refine HK16.out _ _ ?_; clear HK16
 refine wp_cond_split rfl (fun hlt => ?_) (fun hlt => ?_)
 rotate_left
 · clear hlt
   apply wp_exit
   simp only [Exit.inBlock, Exit.then, ↓reduceIte]
   refine HK13.out _ _ ?_; clear HK13
   refine wp_seq_h fun K17 HK17 => ?_
   refine wp_listed (R := fun W W' => Below W.heap.size W W') 2 [.val (.bool true), .val (.bool true)] (fun W => Below W0.heap.size W0 W) kr hG ?_ ?_
   · intro vs W hG b hb
     have i64 := ei_ 64 hb 0
     clear hb
     refine And.intro ?_ (And.intro ?_ (trivial))
     · refine g0 fun hp K hK => ?_; refine st_call rfl (m_27) kr ?_; refine (asm_lives _).mono ?_; rintro e w' ⟨rfl, hb'⟩; exact ⟨_, rfl, hK _ _ rfl (below_step hG hb') hb'⟩
     · refine g0 fun hp K hK => ?_; have e64 : b.eval (.tmp 64) = _ := i64.trans (hp 0 kr); exact st_move (.inr rfl) (e64) (hK _ _ rfl hG (Below.refl _ _))
   intro vs W hG hp b hb
   have q1 : vs 1 = _ := hp 1 kd
   clear hp
   simp only [fillS, Nat.reduceAdd, Nat.zero_add, q1] at hb
   subst hb
   refine wpList_nil ?_
   clear q1
   refine HK17.out _ _ ?_; clear HK17
   have HG := Lib.hid hG
   clear hG
   go_wp2
   go_ret
   exact ⟨rfl, below_step HW.out HG.out⟩
 have hil : i < ws.length := by have := of_decide_eq_true hlt; omega
 clear hlt
 apply wp_skip
 simp only [Exit.then]
 refine HK15.out _ _ ?_; clear HK15
 have hwi : ws[i]? = some ws[i] := List.getElem?_eq_getElem hil
 obtain ⟨y, hy, hyw⟩ := HWK.out _ (List.getElem_mem hil)
 obtain ⟨a0, a1, a2, a3, a4, hdec⟩ := rdec_some hy
 rw [← hyw] at hdec
 generalize ws[i] = wi at hwi hdec
 clear hy hyw
 obtain ⟨ad, hAd, -⟩ := ld_w (Kd.C_below HCW.out hG) hwi
 subst hAd
 refine wp_seq_h fun K18 HK18 => ?_
 apply wp_block
 refine wp_seq_h fun K19 HK19 => ?_
 refine wp_listed (R := fun W W' => Below W.heap.size W W') 9 [.val (.slice (some ad) ws.length cw), .val (.int .i64 (i : Int)), .val (.pointer (some (ad.add i))), .val (.int .u32 wi), .val (.tuple #[.agg #[.int .i64 a0, .int .i64 a1, .int .i64 a2, .int .i64 a3, .int .i32 a4], .bool true]), .val (.tuple #[.agg #[.int .i64 a0, .int .i64 a1, .int .i64 a2, .int .i64 a3, .int .i32 a4], .bool true]), .val (.agg #[.int .i64 a0, .int .i64 a1, .int .i64 a2, .int .i64 a3, .int .i32 a4]), .val (.bool true), newSpec (.cells #[.int .i64 0, .int .i64 0, .int .i64 0, .int .i64 0, .int .i32 0] 32 (0, 0)) (W0.heap.size)] (fun W => Below W0.heap.size W0 W) kr hG ?_ ?_
 · intro vs W hG b hb
   have e4 : b.eval (.tmp 4) = .slice (some ad) ws.length cw := eo_ hb
   have e9 : b.eval (.tmp 9) = .int .i64 (i : Int) := eo_ hb
   have i54 := ei_ 54 hb 5
   have i55 := ei_ 55 hb 0
   have i56 := ei_ 56 hb 1
   have i57 := ei_ 57 hb 2
   have i58 := ei_ 58 hb 3
   have i59 := ei_ 59 hb 4
   clear hb
   refine And.intro ?_ (And.intro ?_ (And.intro ?_ (And.intro ?_ (And.intro ?_ (And.intro ?_ (And.intro ?_ (And.intro ?_ (And.intro ?_ (trivial)))))))))
   · refine g0 fun hp K hK => ?_; exact st_move (.inl rfl) (e4) (hK _ _ rfl hG (Below.refl _ _))
   · refine g0 fun hp K hK => ?_; exact st_move (.inl rfl) (e9) (hK _ _ rfl hG (Below.refl _ _))
   · refine g0 fun hp K hK => ?_; have e55 : b.eval (.tmp 55) = _ := i55.trans (hp 0 kr); have e56 : b.eval (.tmp 56) = _ := i56.trans (hp 1 kr); exact st_index rfl (e55) (e56) (ix39 hil _) (hK _ _ rfl hG (Below.refl _ _))
   · refine g0 fun hp K hK => ?_; have e57 : b.eval (.tmp 57) = _ := i57.trans (hp 2 kr); exact st_load rfl (e57) (by obtain ⟨a', ha', hl'⟩ := ld_w (Kd.C_below HCW.out hG) hwi; rw [Option.some.inj ha']; exact ld_cell 42 kr hl') (hK _ _ rfl hG (Below.refl _ _))
   · refine g0 fun hp K hK => ?_; have e58 : b.eval (.tmp 58) = _ := i58.trans (hp 3 kr); refine st_call rfl (by first | (simp only [List.map_toArray, List.map_cons, List.map_nil, eval_const, e58]; done) | (simp only [List.map_toArray, List.map_cons, List.map_nil, eval_const, e58]; rfl)) kr ?_; refine (d3D.calls 404 wi a0 a1 a2 a3 a4 true _ hdec).mono ?_; rintro e w' ⟨rfl, hb'⟩; exact ⟨_, rfl, hK _ _ rfl (below_step hG hb') hb'⟩
   · refine g0 fun hp K hK => ?_; have e59 : b.eval (.tmp 59) = _ := i59.trans (hp 4 kr); exact st_move (.inl rfl) (e59) (hK _ _ rfl hG (Below.refl _ _))
   · refine g0 fun hp K hK => ?_; have e54 : b.eval (.tmp 54) = _ := i54.trans (hp 5 kr); exact st_extract rfl (e54) kr (hK _ _ rfl hG (Below.refl _ _))
   · refine g0 fun hp K hK => ?_; have e54 : b.eval (.tmp 54) = _ := i54.trans (hp 5 kr); exact st_extract rfl (e54) kr (hK _ _ rfl hG (Below.refl _ _))
   · refine g0 fun hp K hK => ?_; exact st_alloc rfl (new32 _) (hK _ _ ⟨_, rfl, blk_new _ _, hG.size⟩ (hG.alloc hG.size _) ((Below.refl _ _).alloc (Nat.le_refl _) _))
 intro vs W hG hp b hb
 have q6 : vs 6 = _ := hp 6 kd
 have q7 : vs 7 = _ := hp 7 kd
 have q8 : ∃ gg, (vs 8) = .pointer (some ⟨gg, 0, none⟩) ∧ W.heap[gg]? = some (.cells #[.int .i64 0, .int .i64 0, .int .i64 0, .int .i64 0, .int .i32 0] 32 (0, 0)) ∧ W0.heap.size ≤ gg := hp 8 kd
 clear hp
 simp only [fillS, Nat.reduceAdd, Nat.zero_add, q6, q7] at hb
 subst hb
 simp only [List.append_eq, List.cons_append, List.nil_append, List.drop_succ_cons, List.drop_zero]
 clear q6 q7
 obtain ⟨gx, hv, Ax1, hg⟩ := q8
 rw [hv]
 clear hv
 refine wpList_store_mid rfl 32 (.tmp 10) (.tmp 60) rfl gx 0 #[.int .i64 a0, .int .i64 a1, .int .i64 a2, .int .i64 a3, .int .i32 a4] rfl rfl (by have h := blk_there Ax1; exact h) kr kr ?_
 have hG2 := below_sets #[.int .i64 a0, .int .i64 a1, .int .i64 a2, .int .i64 a3, .int .i32 a4].toList 0 W0 W gx hG hg
 clear Ax1 hG
 generalize W.setCells gx 0 #[.int .i64 a0, .int .i64 a1, .int .i64 a2, .int .i64 a3, .int .i32 a4].toList = V at hG2 ⊢
 clear W
 have HG := Lib.hid hG2
 clear hG2
 go_wp2
 have hG := HG.out
 clear HG
 refine HK19.out _ _ ?_; clear HK19
 refine wp_seq_h fun K20 HK20 => ?_
 refine wp_listed (R := fun W W' => Below W.heap.size W W') 2 [.val (.bool true), .val (.bool (!true))] (fun W => Below W0.heap.size W0 W) kr hG ?_ ?_
 · intro vs W hG b hb
   have e11 : b.eval (.tmp 11) = .bool true := eo_ hb
   have i62 := ei_ 62 hb 0
   clear hb
   refine And.intro ?_ (And.intro ?_ (trivial))
   · refine g0 fun hp K hK => ?_; exact st_move (.inl rfl) (e11) (hK _ _ rfl hG (Below.refl _ _))
   · refine g0 fun hp K hK => ?_; have e62 : b.eval (.tmp 62) = _ := i62.trans (hp 0 kr); exact st_un rfl (e62) u_not (hK _ _ rfl hG (Below.refl _ _))
 intro vs W hG hp b hb
 have q1 : vs 1 = _ := hp 1 kd
 clear hp
 simp only [fillS, Nat.reduceAdd, Nat.zero_add, q1] at hb
 subst hb
 refine wpList_nil ?_
 clear q1
 refine HK20.out _ _ ?_; clear HK20
 apply wp_cond_false rfl
 apply wp_skip
 simp only [Exit.inBlock, Exit.then, ↓reduceIte]
 refine HK18.out _ _ ?_; clear HK18
 have hinc : IntKind.i64.wrap ((i : Int) + 1) = (i : Int) + 1 := IntWalk.i64_in _ (by have := HCW.out.2.1; omega)
 have HG := Lib.hid hG
 have Hil := Lib.hid hil
 clear hG hil hi
 go_wp2
 exact ⟨loop_frame kr, ⟨i + 1, m_56, Hil.out, HG.out⟩, Msr.lt (by have := Hil.out; omega)⟩
end Go.Proofs.Ytihecimbhhlhaaa.Rl
