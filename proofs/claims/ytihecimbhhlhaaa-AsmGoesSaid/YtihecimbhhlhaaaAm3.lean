/- Words. -/
import Derived.Test.YtihecimbhhlhaaaAm2
import Derived.Test.YtihecimbhhlhaaaRsG3
import Derived.Test.YtihecimbhhlhaaaAmG1
import Derived.Test.YtihecimbhhlhaaaRsMc
namespace Go.Proofs.Ytihecimbhhlhaaa.Rl
open Go.RowKit Dr PRs
open Go.Proofs.YtihecimbhhlhaaaW.PrintWords (Kd Kd.C Kd.R Kd.C_below Kd.C_get Kd.R_below Kd.R_reads Kd.R_reads' Kd.R_types Kd.R_step Kd.R_alloc Kd.R_drew Kd.R_lower add_field)
set_option linter.unusedVariables false
set_option linter.unusedSimpArgs false
set_option maxRecDepth 100000
/-- An instruction's word. -/
def ew (y : S32) : Int := if Pure.okI y.f0 y.f1 y.f2 y.f3 y.f4 = true then Pure.wdI y.f0 y.f1 y.f2 y.f3 y.f4 else 0
theorem enc_is (y : S32) : iEn.f 12 y.f0 y.f1 y.f2 y.f3 y.f4 = some (ew y, Pure.okI y.f0 y.f1 y.f2 y.f3 y.f4) := by
 rw [Pure.encode_is 0]
 unfold ew
 cases Pure.okI y.f0 y.f1 y.f2 y.f3 y.f4 <;> rfl
/-- The words of the first n items. -/
def wl (l : List S34) (far : Nat → Bool) : Nat → List Int
 | 0 => []
 | i + 1 => wl l far i ++ (insL l far i).map ew
theorem setL_two (rd n : Int) : (Pure.setL rd n).length ≤ 2 := Pure.setL_length rd n
theorem insL_two (l : List S34) (far : Nat → Bool) (i : Nat) : (insL l far i).length ≤ 2 := by
 unfold insL
 have := setL_two (l.getD i z34).f1.f1 (l.getD i z34).f1.f4
 simp only
 repeat' split
 all_goals first | exact this | simp
theorem wl_len (l : List S34) (far : Nat → Bool) : ∀ n, (wl l far n).length ≤ 2 * n
 | 0 => by simp [wl]
 | i + 1 => by
  have h1 := wl_len l far i
  have h2 := insL_two l far i
  simp only [wl, List.length_append, List.length_map]
  omega
theorem mk39 (W : World) (base n : Nat) (hn : n ≤ 300000) (hb : base ≤ W.heap.size) : ∃ W', (Instr.makeSlice 39 (.int .i64 0) (.int .i64 (n : Int))).run Try.prog W = .ok (.slice (some ⟨W.heap.size, 0, none⟩) 0 n) W' ∧ Kd.R (Kd.int .u32) 42 W' base (fun _ => True) (.slice (some ⟨W.heap.size, 0, none⟩) 0 n) [] ∧ Below W.heap.size W W' := by
 obtain ⟨i0, hi, hz⟩ := Option.map_eq_some_iff.1 info42
 simp only [Prod.mk.injEq] at hz
 obtain ⟨W', hr, ho, hg⟩ := run_makeSlice_owned (P := Try.prog) (w := W) base 39 42 i0 (.int .u32 0) 1 Try.underlying39 hi hz.1 hz.2.1 .i64 .i64 n (by omega) (by rw [hz.2.2]; omega) (by unfold maxLen; omega) hb
 refine ⟨W', hr, ⟨fun _ _ => trivial, [], ho, ?_⟩, br.grown hg (Nat.le_refl _) (fun j hj => by cases hj)⟩
 exact Go.Proofs.YtihecimbhhlhaaaW.PrintWords.Reps.none _ _
def wordSpec (l : List Int) (g0 : Nat) : DSpec (fun W W' => Below W.heap.size W W') := ⟨fun v W => Kd.R (Kd.int .u32) 42 W g0 (fun _ => True) v l, fun _ _ _ h hb => Kd.R_below h hb⟩
theorem C32_keep {W W' : World} {A : Option Addr} {n : Nat} {xs : List S32} (h : Kd.C k32 W A n xs) (hb : ∀ a, A = some a → W'.heap[a.block]? = W.heap[a.block]?) : Kd.C k32 W' A n xs := by
 refine ⟨h.1, h.2.1, fun h0 => ?_⟩
 obtain ⟨ad, e, f⟩ := h.2.2 h0
 refine ⟨ad, e, fun j p hp => ?_⟩
 obtain ⟨cs, h1, h2, h3⟩ := f j p hp
 obtain rfl := k32_open h2
 refine ⟨_, h1, k32_mk W' p, fun i u hu => ?_⟩
 rw [← h3 i u hu]
 have := hb ad e
 have hbl : ∀ q, (ad.add q).block = ad.block := fun q => by unfold Addr.add; split <;> rfl
 unfold World.cell?
 rw [hbl, this]
theorem C32_lt {W : World} {A : Option Addr} {l : List S32} (h : Kd.C k32 W A l.length l) {i : Nat} (hi : i < l.length) : ∀ a, A = some a → a.block < W.heap.size := by
 obtain ⟨ad, c, e, _, hK, hc⟩ := Kd.C_get h z32 (i : Int) (by omega) (by omega)
 obtain rfl := k32_open hK
 intro a ha
 obtain rfl : ad = a := Option.some.inj (e.symm.trans ha)
 have h0 := hc 0 _ rfl
 have hbl : ∀ q, (ad.add q).block = ad.block := fun q => by unfold Addr.add; split <;> rfl
 rcases Nat.lt_or_ge ad.block W.heap.size with q | q
 · exact q
 · unfold World.cell? at h0
   rw [hbl, Array.getElem?_eq_none q] at h0
   cases h0
theorem row_sets_ok {W : World} {g k t e : Nat} {α : Type} {d : Kd α} {ok : Nat → Prop} (hE : d.E = []) {v : Value} {l : List α} {cs : Array Value} {vs : List Value} (h : Kd.R d e W g ok v l) (hk : W.heap[k]? = some (.cells cs t (0, 0))) (hne : e ≠ t) : Kd.R d e (W.setCells k 0 vs) g ok v l := by
 have ht : ∀ q, q ∈ e :: d.E → q ≠ t := by
  intro q hq
  rw [hE] at hq
  have := List.mem_singleton.1 hq
  omega
 have h2 : Kd.R d e (W.setCells k 0 vs) g (fun j => ok j ∧ j ≠ k) v l := Kd.R_step (Kd.R_types h hk ht) (fun j hj hlt => (blk_puts_far (Array.getElem?_eq_getElem hlt) hj.2).trans (Array.getElem?_eq_getElem hlt).symm)
 exact Go.Proofs.YtihecimbhhlhaaaW.PrintWords.Kd.R_mono h2 (fun _ hq => hq.1)
theorem item_any (A : Option Addr) (c : Nat) (l : List S34) (far : Nat → Bool) (adb : Addr) (cb gf gm gp i : Nat) (w : World) (hl : l.length ≤ 4000) (hil : i < l.length) (hI : ∀ x ∈ l, In64 x.f2) (hJ : ∀ x ∈ l, In32 x.f1.f4) (hL : LD l far A c adb cb gf gm gp w) (hk : (l.getD i z34).f0 = 1 ∨ (l.getD i z34).f0 = 5 ∨ (l.getD i z34).f0 = 2 ∨ ((l.getD i z34).f0 ≠ 1 ∧ (l.getD i z34).f0 ≠ 5 ∧ (l.getD i z34).f0 ≠ 2 ∧ (lab l l.length (l.getD i z34).f2).isSome = true)) :
 Calls Try.prog 25 #[.pointer (some ⟨gp, 0, none⟩), .int .i64 (i : Int)] w fun e w' => ∃ A c, e = .returned (.slice A (insL l far i).length c) ∧ (∀ a, A = some a → w.heap.size ≤ a.block) ∧ Kd.C k32 w' A (insL l far i).length (insL l far i) ∧ Below w.heap.size w w' := by
 obtain ⟨a', ha', -⟩ := ld_it hL.2.1 (List.getElem?_eq_getElem hil)
 subst ha'
 exact item_is a' c l far adb cb gf gm gp i w hl hil hI hJ hL hk
theorem ix56 {ad : Addr} {n c i : Nat} (h : i < n) (W : World) : (Instr.indexAt 56 (.slice (some ad) n c) (.int .i64 (i : Int))).run Try.prog W = .ok (.pointer (some (ad.add (i * 5)))) W := by
 have e : (sizeOf (Try.prog.elem 56)).run Try.prog W = .ok 5 W := by kernel_rfl
 rw [run_indexAt_slice W 56 ad n c .i64 i kr, if_pos ⟨by omega, by omega⟩, e]
 simp only [Result.andThen_ok, Int.toNat_natCast]
theorem ld_in {W : World} {A : Option Addr} {l : List S32} (h : Kd.C k32 W A l.length l) {i : Nat} {x : S32} (hi : l[i]? = some x) :
 ∃ ad, A = some ad ∧ (loadVar 32 (ad.add (i * 5))).run Try.prog W = .ok (.agg (in_ x)) W := by
 have hlt : i < l.length := (List.getElem?_eq_some_iff.1 hi).1
 obtain ⟨ad, c, e, _, hK, hc⟩ := Kd.C_get h z32 (i : Int) (by omega) (by omega)
 rw [Int.toNat_natCast] at hK hc
 have hx : l.getD i z32 = x := by simp [List.getD, hi]
 rw [hx] at hK
 obtain rfl := k32_open hK
 refine ⟨ad, e, ?_⟩
 have hl : (loadCells (ad.add (i * 5)) 5).run Try.prog W = .ok (in_ x) W :=
  run_loadCells_list W (ad.add (i * 5)) _ (fun j v hv => by rw [Addr.add_add]; exact hc j v hv)
 have hagg : (isAgg 32).run Try.prog W = .ok true W := by kernel_rfl
 have hs : (sizeOf 32).run Try.prog W = .ok 5 W := by kernel_rfl
 simp [loadVar, Sem.run_bind, hagg, hs, hl]
theorem len56 {a : Option Addr} {n c : Nat} (cs : Array Bool) (W : World) : (builtin .len #[56] 3 cs #[.slice a n c]).run Try.prog W = .ok (.value (.int .i64 (n : Int))) W := by kernel_rfl
theorem map_take_succ {l : List S32} {j : Nat} {y : S32} (h : l[j]? = some y) (pre : List Int) : (pre ++ (l.take j).map ew) ++ [ew y] = pre ++ (l.take (j + 1)).map ew := by
 have e : l.take (j + 1) = l.take j ++ [y] := by rw [List.take_add_one, h]; rfl
 rw [e, List.map_append, List.append_assoc]
 rfl
set_option maxHeartbeats 8000000 in
theorem words_bad (A : Option Addr) (c : Nat) (l : List S34) (bz : Int) (w : World) (hbz : bz.tmod 4 = 0) (hl : l.length ≤ 4000) (hI : ∀ x ∈ l, In64 x.f2) (hJ : ∀ x ∈ l, In32 x.f1.f4) (hC : Kd.C k34 w A l.length l) (ho : ¬ okL l) :
 Calls Try.prog 12 #[.int .u32 bz, .slice A l.length c] w fun e w' => ∃ k : Int, k ≠ 0 ∧ e = .returned (.tuple #[.slice none 0 0, .int .i64 k]) ∧ Below w.heap.size w w' := by
 have HL := Lib.hid hl
 have HI := Lib.hid hI
 have HJ := Lib.hid hJ
 have HC := Lib.hid hC
 clear hl hI hJ hC
 go_enter Try.func12, Try.ntmps12
 refine wp_seq_h fun K1 HK1 => ?_
 go_wp2
 have hG : Below w.heap.size w w := Below.refl _ _
 refine HK1.out _ _ ?_; clear HK1
 refine wp_seq_h fun K2 HK2 => ?_
 refine wp_listed (R := fun W W' => Below W.heap.size W W') 8 [.val (.int .u32 bz), .val (.slice A l.length c), errSpec (fun k => .tuple #[.pointer none, .int .i64 k]), errSpec (fun k => .tuple #[.pointer none, .int .i64 k]), .val (.pointer none), errSpec (fun k => .int .i64 k), .val (.pointer none), errSpec (fun k => .int .i64 k)] (fun W => Below w.heap.size w W) kr hG ?_ ?_
 · intro vs W hG b hb
   have e0 : b.eval (.tmp 0) = .int .u32 bz := eo_ hb
   have e1 : b.eval (.tmp 1) = .slice A l.length c := eo_ hb
   refine ai ?_ (ai ?_ (ai ?_ (ai ?_ (ai ?_ (ai ?_ (ai ?_ (ai ?_ (trivial))))))))
   · exact mI hG fun hp => e0
   · exact mI hG fun hp => e1
   · refine g0 fun hp K hK => ?_; have e15 : b.eval (.tmp 15) = _ := ev 15 hb 0 (hp 0 kr); have e16 : b.eval (.tmp 16) = _ := ev 16 hb 1 (hp 1 kr); refine st_call rfl (by first | (simp only [List.map_toArray, List.map_cons, List.map_nil, eval_const, e15, e16]; done) | (simp only [List.map_toArray, List.map_cons, List.map_nil, eval_const, e15, e16]; rfl)) kr ?_; refine (lay_bad A c l bz _ hbz HL.out HI.out HJ.out (Kd.C_below HC.out hG) ho).mono ?_; rintro e w' ⟨k, hk, rfl, hb'⟩; exact ⟨_, rfl, hK _ _ ⟨_, hk, rfl⟩ (below_step hG hb') hb'⟩
   · refine g0 fun hp K hK => ?_; have q2 : ∃ k : Int, k ≠ 0 ∧ (vs 2) = .tuple #[.pointer none, .int .i64 k] := hp 2 kr; obtain ⟨k, hk, hv⟩ := q2; have e17 := (ei_ 17 hb 2).trans hv; exact st_move (.inl rfl) (e17) (hK _ _ ⟨_, hk, rfl⟩ hG br)
   · refine g0 fun hp K hK => ?_; have q3 : ∃ k : Int, k ≠ 0 ∧ (vs 3) = .tuple #[.pointer none, .int .i64 k] := hp 3 kr; obtain ⟨k, hk, hv⟩ := q3; have e14 := (ei_ 14 hb 3).trans hv; exact st_extract rfl (e14) kr (hK _ _ rfl hG br)
   · refine g0 fun hp K hK => ?_; have q3 : ∃ k : Int, k ≠ 0 ∧ (vs 3) = .tuple #[.pointer none, .int .i64 k] := hp 3 kr; obtain ⟨k, hk, hv⟩ := q3; have e14 := (ei_ 14 hb 3).trans hv; exact st_extract rfl (e14) kr (hK _ _ ⟨_, hk, rfl⟩ hG br)
   · exact gv rfl hG fun hp K hK => st_move (.inr rfl) (ev 18 hb 4 (hp 4 kr)) hK
   · refine g0 fun hp K hK => ?_; have q5 : ∃ k : Int, k ≠ 0 ∧ (vs 5) = .int .i64 k := hp 5 kr; obtain ⟨k, hk, hv⟩ := q5; have e19 := (ei_ 19 hb 5).trans hv; exact st_move (.inr rfl) (e19) (hK _ _ ⟨_, hk, rfl⟩ hG br)
 intro vs W hG hp b hb
 have q0 : vs 0 = _ := hp 0 kd
 have q1 : vs 1 = _ := hp 1 kd
 have q2 : ∃ k : Int, k ≠ 0 ∧ (vs 2) = .tuple #[.pointer none, .int .i64 k] := hp 2 kd
 have q3 : ∃ k : Int, k ≠ 0 ∧ (vs 3) = .tuple #[.pointer none, .int .i64 k] := hp 3 kd
 have q4 : vs 4 = _ := hp 4 kd
 have q5 : ∃ k : Int, k ≠ 0 ∧ (vs 5) = .int .i64 k := hp 5 kd
 have q6 : vs 6 = _ := hp 6 kd
 have q7 : ∃ k : Int, k ≠ 0 ∧ (vs 7) = .int .i64 k := hp 7 kd
 clear hp
 simp only [fillS, Nat.reduceAdd, Nat.zero_add, q0, q1, q4, q6] at hb
 subst hb
 refine wpList_nil ?_
 clear q0 q1 q4 q6
 clear q2 q3 q5
 obtain ⟨k, hk, hv⟩ := q7
 rw [hv]
 clear hv
 refine HK2.out _ _ ?_; clear HK2
 refine wp_seq_h fun K3 HK3 => ?_
 refine wp_seq_h fun K4 HK4 => ?_
 refine wp_listed (R := fun W W' => Below W.heap.size W W') 2 [.val (.int .i64 k), .val (.bool (k != 0))] (fun W => Below w.heap.size w W) kr hG ?_ ?_
 · intro vs W hG b hb
   have e7 : b.eval (.tmp 7) = .int .i64 k := eo_ hb
   refine ai ?_ (ai ?_ (trivial))
   · exact mI hG fun hp => e7
   · exact gv rfl hG fun hp K hK => st_bin rfl (ev 20 hb 0 (hp 0 kr)) (eval_const _) b_neq hK
 intro vs W hG hp b hb
 have q1 : vs 1 = _ := hp 1 kd
 clear hp
 simp only [fillS, Nat.reduceAdd, Nat.zero_add, q1] at hb
 subst hb
 refine wpList_nil ?_
 clear q1
 refine HK4.out _ _ ?_; clear HK4
 have hd : (k != 0) = true := by simpa using hk
 rw [hd]
 clear hd
 apply wp_cond_true rfl
 have HG := Lib.hid hG
 clear hG
 go_wp2
 have HG := HG.out
 first | go_ret2 | (rw [Exit.noGoto_ret]; go_ret2)
 exact ⟨k, hk, rfl, HG⟩
set_option maxHeartbeats 16000000 in
theorem words_good (A : Option Addr) (c : Nat) (l : List S34) (bz : Int) (w : World) (hbz : bz.tmod 4 = 0) (hl : l.length ≤ 4000) (hI : ∀ x ∈ l, In64 x.f2) (hJ : ∀ x ∈ l, In32 x.f1.f4) (hC : Kd.C k34 w A l.length l) (ho : okL l) (hkd : ∀ far : Nat → Bool, ∀ i, i < l.length → (l.getD i z34).f0 = 1 ∨ (l.getD i z34).f0 = 5 ∨ (l.getD i z34).f0 = 2 ∨ ((l.getD i z34).f0 ≠ 1 ∧ (l.getD i z34).f0 ≠ 5 ∧ (l.getD i z34).f0 ≠ 2 ∧ (lab l l.length (l.getD i z34).f2).isSome = true)) :
 Calls Try.prog 12 #[.int .u32 bz, .slice A l.length c] w fun e w' => ∃ far v, e = .returned (.tuple #[v, .int .i64 0]) ∧ Kd.R (Kd.int .u32) 42 w' w.heap.size (fun _ => True) v (wl l far l.length) ∧ (good l far ∧ FI l far) ∧ Below w.heap.size w w' := by
 have HL := Lib.hid hl
 have HI := Lib.hid hI
 have HJ := Lib.hid hJ
 have HC := Lib.hid hC
 clear hl hI hJ hC
 go_enter Try.func12, Try.ntmps12
 refine wp_seq_h fun K1 HK1 => ?_
 go_wp2
 have hG : Below w.heap.size w w := Below.refl _ _
 refine HK1.out _ _ ?_; clear HK1
 refine wp_seq_h fun K2 HK2 => ?_
 refine wp_listed (R := fun W W' => Below W.heap.size W W') 3 [.val (.int .u32 bz), .val (.slice A l.length c), ldS l A c] (fun W => Below w.heap.size w W) kr hG ?_ ?_
 · intro vs W hG b hb
   have e0 : b.eval (.tmp 0) = .int .u32 bz := eo_ hb
   have e1 : b.eval (.tmp 1) = .slice A l.length c := eo_ hb
   refine ai ?_ (ai ?_ (ai ?_ (trivial)))
   · exact mI hG fun hp => e0
   · exact mI hG fun hp => e1
   · refine g0 fun hp K hK => ?_; have e15 : b.eval (.tmp 15) = _ := ev 15 hb 0 (hp 0 kr); have e16 : b.eval (.tmp 16) = _ := ev 16 hb 1 (hp 1 kr); refine st_call rfl (by first | (simp only [List.map_toArray, List.map_cons, List.map_nil, eval_const, e15, e16]; done) | (simp only [List.map_toArray, List.map_cons, List.map_nil, eval_const, e15, e16]; rfl)) kr ?_; refine (lay_good A c l bz _ hbz HL.out HI.out HJ.out (Kd.C_below HC.out hG) ho).mono ?_; rintro e w' ⟨far, adb, cb, gf, gm, gp, rfl, hP, hb'⟩; exact ⟨_, rfl, hK _ _ ⟨_, _, _, _, _, _, rfl, hP⟩ (below_step hG hb') hb'⟩
 intro vs W hG hp b hb
 have q0 : vs 0 = _ := hp 0 kd
 have q1 : vs 1 = _ := hp 1 kd
 have q2 : ∃ far adb cb gf gm gp, (vs 2) = .tuple #[.pointer (some ⟨gp, 0, none⟩), .int .i64 0] ∧ LD l far A c adb cb gf gm gp W := hp 2 kd
 clear hp
 simp only [fillS, Nat.reduceAdd, Nat.zero_add, q0, q1] at hb
 subst hb
 simp only [List.append_eq, List.cons_append, List.nil_append, List.drop_succ_cons, List.drop_zero]
 clear q0 q1
 obtain ⟨far, adb, cb, gf, gm, gp, hv, hP⟩ := q2
 rw [hv]
 clear hv
 obtain ⟨W0, hW0⟩ : ∃ W0, W0 = W := ⟨W, rfl⟩
 have HD := Lib.hid (show LD l far A c adb cb gf gm gp W0 by rw [hW0]; exact hP)
 have HW := Lib.hid (show Below w.heap.size w W0 by rw [hW0]; exact hG)
 clear hG hP
 have hG : Below W0.heap.size W0 W := by rw [hW0]; exact Below.refl _ _
 clear hW0
 clear HC
 have HGG := Lib.hid hG
 clear hG
 go_wp2
 have hG := HGG.out
 clear HGG
 refine HK2.out _ _ ?_; clear HK2
 refine wp_seq_h fun K3 HK3 => ?_
 refine wp_seq_h fun K4 HK4 => ?_
 refine wp_listed (R := fun W W' => Below W.heap.size W W') 2 [.val (.int .i64 0), .val (.bool (0 != 0))] (fun W => Below W0.heap.size W0 W) kr hG ?_ ?_
 · intro vs W hG b hb
   have e7 : b.eval (.tmp 7) = .int .i64 0 := eo_ hb
   refine ai ?_ (ai ?_ (trivial))
   · exact mI hG fun hp => e7
   · exact gv rfl hG fun hp K hK => st_bin rfl (ev 20 hb 0 (hp 0 kr)) (eval_const _) b_neq hK
 intro vs W hG hp b hb
 have q1 : vs 1 = _ := hp 1 kd
 clear hp
 simp only [fillS, Nat.reduceAdd, Nat.zero_add, q1] at hb
 subst hb
 refine wpList_nil ?_
 clear q1
 refine HK4.out _ _ ?_; clear HK4
 apply wp_cond_false rfl
 apply wp_skip
 simp only [Exit.then]
 refine HK3.out _ _ ?_; clear HK3
 refine wp_seq_h fun K5 HK5 => ?_
 have hbn := beg_in l far l.length
 obtain ⟨nw, hnw⟩ : ∃ nw : Nat, beg l far l.length / 4 = (nw : Int) := ⟨(beg l far l.length / 4).toNat, by omega⟩
 have hnw2 : nw ≤ 300000 := by have := HL.out; omega
 refine wp_listed (R := fun W W' => Below W.heap.size W W') 11 [.val (.pointer (some ⟨gp, 0, none⟩)), .val (.pointer (some ⟨gp, 0, none⟩)), .val (.pointer (some ⟨gp, 1, none⟩)), .val (.slice (some adb) (l.length + 1) cb), .val (.slice A l.length c), .val (.int .i64 (l.length : Int)), .val (.pointer (some (adb.add l.length))), .val (.int .i64 (beg l far l.length)), .val (.int .i64 (nw : Int)), wordSpec ([]) W0.heap.size, wordSpec ([]) W0.heap.size] (fun W => Below W0.heap.size W0 W) kr hG ?_ ?_
 · intro vs W hG b hb
   have e1 : b.eval (.tmp 1) = .slice A l.length c := eo_ hb
   have e6 : b.eval (.tmp 6) = .pointer (some ⟨gp, 0, none⟩) := eo_ hb
   refine ai ?_ (ai ?_ (ai ?_ (ai ?_ (ai ?_ (ai ?_ (ai ?_ (ai ?_ (ai ?_ (ai ?_ (ai ?_ (trivial)))))))))))
   · exact mI hG fun hp => e6
   · exact gv rfl hG fun hp K hK => st_nilCheck rfl (ev 23 hb 0 (hp 0 kr)) hK
   · exact gv rfl hG fun hp K hK => st_field rfl (ev 24 hb 1 (hp 1 kr)) kr hK
   · exact gv rfl hG fun hp K hK => st_load rfl (ev 25 hb 2 (hp 2 kr)) (ld_cell 25 kr ((blk_cell (blk_below HD.out.1 hG) 1).trans rfl)) hK
   · exact mI hG fun hp => e1
   · refine g0 fun hp K hK => ?_; have e27 : b.eval (.tmp 27) = _ := ev 27 hb 4 (hp 4 kr); exact st_builtin rfl (by first | (simp only [List.map_toArray, List.map_cons, List.map_nil, eval_const, e27]; done) | (simp only [List.map_toArray, List.map_cons, List.map_nil, eval_const, e27]; rfl)) (fun cs => b_len 23 (by decide) cs _) (hK _ _ rfl hG br)
   · exact gv rfl hG fun hp K hK => st_index rfl (ev 26 hb 3 (hp 3 kr)) (ev 28 hb 5 (hp 5 kr)) (ix25n (Nat.lt_succ_self _) _) hK
   · exact gv rfl hG fun hp K hK => st_load rfl (ev 29 hb 6 (hp 6 kr)) (by obtain ⟨a', ha', hl'⟩ := ld_beg (Kd.C_below HD.out.2.2.1.1.2.1 hG) (Nat.lt_succ_self _); rw [Option.some.inj ha']; exact ld_cell 3 kr hl') hK
   · exact gv rfl hG fun hp K hK => st_bin rfl (ev 30 hb 7 (hp 7 kr)) (eval_const _) (b_quo (by decide) (by rw [IntWalk.i64_quo _ _ (m_55)]; exact hnw)) hK
   · refine g0 fun hp K hK => ?_; have e31 : b.eval (.tmp 31) = _ := ev 31 hb 8 (hp 8 kr); obtain ⟨W1, hr0, hR0, hb0⟩ := mk39 W W0.heap.size nw hnw2 hG.size; exact st_makeSlice rfl (eval_const _) (e31) hr0 (hK _ _ hR0 (below_step hG hb0) hb0)
   · refine g0 fun hp K hK => ?_; have q9 : Kd.R (Kd.int .u32) 42 W W0.heap.size (fun _ => True) (vs 9) ([]) := hp 9 kr; skip; have e32 := (ei_ 32 hb 9); exact st_move (.inr rfl) (e32) (hK _ _ q9 hG br)
 intro vs W hG hp b hb
 have q0 : vs 0 = _ := hp 0 kd
 have q1 : vs 1 = _ := hp 1 kd
 have q2 : vs 2 = _ := hp 2 kd
 have q3 : vs 3 = _ := hp 3 kd
 have q4 : vs 4 = _ := hp 4 kd
 have q5 : vs 5 = _ := hp 5 kd
 have q6 : vs 6 = _ := hp 6 kd
 have q7 : vs 7 = _ := hp 7 kd
 have q8 : vs 8 = _ := hp 8 kd
 have q9 : Kd.R (Kd.int .u32) 42 W W0.heap.size (fun _ => True) (vs 9) ([]) := hp 9 kd
 have q10 : Kd.R (Kd.int .u32) 42 W W0.heap.size (fun _ => True) (vs 10) ([]) := hp 10 kd
 clear hp
 simp only [fillS, Nat.reduceAdd, Nat.zero_add, q0, q1, q2, q3, q4, q5, q6, q7, q8] at hb
 subst hb
 refine wpList_nil ?_
 clear q0 q1 q2 q3 q4 q5 q6 q7 q8
 clear q9 hnw hnw2 hbn
 replace hG : Below W0.heap.size W0 W ∧ Kd.R (Kd.int .u32) 42 W W0.heap.size (fun _ => True) (vs 10) [] := ⟨hG, q10⟩
 clear q10
 generalize vs 10 = u0 at hG ⊢
 refine HK5.out _ _ ?_; clear HK5
 refine wp_seq_h fun K6 HK6 => ?_
 refine wp_seq_h fun K7 HK7 => ?_
 refine wp_listed (R := fun W W' => Below W.heap.size W W') 3 [.val (.slice A l.length c), .val (.int .i64 (l.length : Int)), .val (.int .i64 0)] (fun W => Below W0.heap.size W0 W ∧ Kd.R (Kd.int .u32) 42 W W0.heap.size (fun _ => True) u0 []) kr hG ?_ ?_
 · intro vs W hG b hb
   have e1 : b.eval (.tmp 1) = .slice A l.length c := eo_ hb
   refine ai ?_ (ai ?_ (ai ?_ (trivial)))
   · exact mI hG fun hp => e1
   · refine g0 fun hp K hK => ?_; have e33 : b.eval (.tmp 33) = _ := ev 33 hb 0 (hp 0 kr); exact st_builtin rfl (by first | (simp only [List.map_toArray, List.map_cons, List.map_nil, eval_const, e33]; done) | (simp only [List.map_toArray, List.map_cons, List.map_nil, eval_const, e33]; rfl)) (fun cs => b_len 23 (by decide) cs _) (hK _ _ rfl hG br)
   · exact mI hG fun hp => eval_const _
 intro vs W hG hp b hb
 have q0 : vs 0 = _ := hp 0 kd
 have q1 : vs 1 = _ := hp 1 kd
 have q2 : vs 2 = _ := hp 2 kd
 clear hp
 simp only [fillS, Nat.reduceAdd, Nat.zero_add, q0, q1, q2] at hb
 subst hb
 refine wpList_nil ?_
 clear q0 q1 q2
 refine HK7.out _ _ ?_; clear HK7
 apply wp_block
 refine wp_loopS [8, 9, 11, 12, 13, 21, 35, 36, 37, 38, 39, 40, 41, 42, 43, 44, 45, 46, 47, 48, 49, 50, 51, 52, 53, 54, 55, 56] (fun sl W => ∃ i : Nat, sl 35 = .int .i64 (i : Int) ∧ i ≤ l.length ∧ Below W0.heap.size W0 W ∧ ∃ u, sl 8 = u ∧ Kd.R (Kd.int .u32) 42 W W0.heap.size (fun _ => True) u (wl l far i)) (fun sl W => Msr (l.length : Int) (sl 35)) ⟨0, rfl, Nat.zero_le _, hG.1, _, rfl, hG.2⟩ ?_
 clear hG
 intro vs W b hb hI
 obtain ⟨i, hsl, hi, hG, u, h8, hR⟩ := hI
 replace hG := And.intro hG hR
 clear hR
 simp only [setSlots, Act.put, List.setIfInBounds_toArray, List.set_cons_succ, List.set_cons_zero] at hb
 subst hb
 replace hsl : vs 35 = .int .i64 (i : Int) := hsl
 replace h8 : vs 8 = u := h8
 rw [hsl, h8]
 clear hsl h8
 refine wp_seq_h fun K8 HK8 => ?_
 refine wp_listed (R := fun W W' => Below W.heap.size W W') 1 [.val (.bool (decide ((i : Int) < (l.length : Int))))] (fun W => Below W0.heap.size W0 W ∧ Kd.R (Kd.int .u32) 42 W W0.heap.size (fun _ => True) u (wl l far i)) kr hG ?_ ?_
 · intro vs W hG b hb
   have e34 : b.eval (.tmp 34) = .int .i64 (l.length : Int) := eo_ hb
   have e35 : b.eval (.tmp 35) = .int .i64 (i : Int) := eo_ hb
   refine ai ?_ (trivial)
   · exact gv rfl hG fun hp K hK => st_bin rfl (e35) (e34) b_lss hK
 intro vs W hG hp b hb
 have q0 : vs 0 = _ := hp 0 kd
 clear hp
 simp only [fillS, Nat.reduceAdd, Nat.zero_add, q0] at hb
 subst hb
 refine wpList_nil ?_
 clear q0
 refine HK8.out _ _ ?_; clear HK8
 refine wp_seq_h fun K9 HK9 => ?_
 refine wp_cond_split rfl (fun hlt => ?_) (fun hlt => ?_)
 rotate_left
 · have hle : i = l.length := by have := of_decide_eq_false hlt; omega
   clear hlt
   apply wp_exit
   simp only [Exit.inBlock, Exit.then, ↓reduceIte]
   subst hle
   clear hi
   refine HK6.out _ _ ?_; clear HK6
   have HG := Lib.hid hG
   clear hG
   go_wp2
   first | go_ret2 | (rw [Exit.noGoto_ret]; go_ret2)
   exact ⟨far, u, rfl, Kd.R_lower HG.out.2 HW.out.size, HD.out.2.2.1.2, below_step HW.out HG.out.1⟩
 have hil : i < l.length := by have := of_decide_eq_true hlt; omega
 clear hlt
 apply wp_skip
 simp only [Exit.then]
 refine HK9.out _ _ ?_; clear HK9
 refine wp_seq_h fun K10 HK10 => ?_
 apply wp_block
 refine wp_seq_h fun K11 HK11 => ?_
 refine wp_listed (R := fun W W' => Below W.heap.size W W') 2 [.val (.int .i64 (i : Int)), .val (.int .i64 (i : Int))] (fun W => Below W0.heap.size W0 W ∧ Kd.R (Kd.int .u32) 42 W W0.heap.size (fun _ => True) u (wl l far i)) kr hG ?_ ?_
 · intro vs W hG b hb
   have e35 : b.eval (.tmp 35) = .int .i64 (i : Int) := eo_ hb
   refine ai ?_ (ai ?_ (trivial))
   · exact mI hG fun hp => e35
   · exact gv rfl hG fun hp K hK => st_move (.inr rfl) (ev 37 hb 0 (hp 0 kr)) hK
 intro vs W hG hp b hb
 have q1 : vs 1 = _ := hp 1 kd
 clear hp
 simp only [fillS, Nat.reduceAdd, Nat.zero_add, q1] at hb
 subst hb
 refine wpList_nil ?_
 clear q1
 refine HK11.out _ _ ?_; clear HK11
 refine wp_seq_h fun K12 HK12 => ?_
 have hRo : Kd.R (Kd.int .u32) 42 W W0.heap.size (fun k => k < W.heap.size) u (wl l far i) := Go.Proofs.YtihecimbhhlhaaaW.PrintWords.Kd.R_mono (Go.Proofs.YtihecimbhhlhaaaW.PrintWords.Kd.R_bound hG.2) (fun _ hk => hk.2.2.1)
 obtain ⟨W1, hW1⟩ : ∃ W1, W1 = W := ⟨W, rfl⟩
 have HS1 := Lib.hid (show W0.heap.size ≤ W1.heap.size by rw [hW1]; exact hG.1.size)
 replace hG : (Below W0.heap.size W0 W ∧ W1.heap.size ≤ W.heap.size) ∧ Kd.R (Kd.int .u32) 42 W W0.heap.size (fun k => k < W1.heap.size) u (wl l far i) := ⟨⟨hG.1, by rw [hW1]; exact Nat.le_refl _⟩, by rw [hW1]; exact hRo⟩
 clear hW1 hRo
 refine wp_listed (R := fun W W' => Below W.heap.size W W') 5 [.val (.pointer (some ⟨gp, 0, none⟩)), .val (.int .i64 (i : Int)), row32 (insL l far i) W1.heap.size, .val (.int .i64 ((insL l far i).length : Int)), .val (.int .i64 0)] (fun W => (Below W0.heap.size W0 W ∧ W1.heap.size ≤ W.heap.size) ∧ Kd.R (Kd.int .u32) 42 W W0.heap.size (fun k => k < W1.heap.size) u (wl l far i)) kr hG ?_ ?_
 · intro vs W hG b hb
   have e6 : b.eval (.tmp 6) = .pointer (some ⟨gp, 0, none⟩) := eo_ hb
   have e9 : b.eval (.tmp 9) = .int .i64 (i : Int) := eo_ hb
   refine ai ?_ (ai ?_ (ai ?_ (ai ?_ (ai ?_ (trivial)))))
   · exact mI hG fun hp => e6
   · exact mI hG fun hp => e9
   · refine g0 fun hp K hK => ?_; have e38 : b.eval (.tmp 38) = _ := ev 38 hb 0 (hp 0 kr); have e39 : b.eval (.tmp 39) = _ := ev 39 hb 1 (hp 1 kr); refine st_call rfl (by first | (simp only [List.map_toArray, List.map_cons, List.map_nil, eval_const, e38, e39]; done) | (simp only [List.map_toArray, List.map_cons, List.map_nil, eval_const, e38, e39]; rfl)) kr ?_; refine (item_any A c l far adb cb gf gm gp i _ HL.out hil HI.out HJ.out (LD_below HD.out hG.1.1) (hkd far i hil)).mono ?_; rintro e w' ⟨A, c, rfl, hA0, hC, hb'⟩; have hA := fun a ha => Nat.le_trans hG.1.2 (hA0 a ha); exact ⟨_, rfl, hK _ _ ⟨_, _, rfl, hA, hC⟩ ⟨⟨below_step hG.1.1 hb', Nat.le_trans hG.1.2 hb'.size⟩, Kd.R_below hG.2 hb'⟩ hb'⟩
   · refine g0 fun hp K hK => ?_; have q2 : ∃ A c, (vs 2) = .slice A (insL l far i).length c ∧ (∀ a, A = some a → W1.heap.size ≤ a.block) ∧ Kd.C k32 W A (insL l far i).length (insL l far i) := hp 2 kr; obtain ⟨A, c, hv, hA, hC⟩ := q2; have e40 := (ei_ 40 hb 2).trans hv; exact st_builtin rfl (by first | (simp only [List.map_toArray, List.map_cons, List.map_nil, eval_const, e40]; done) | (simp only [List.map_toArray, List.map_cons, List.map_nil, eval_const, e40]; rfl)) (fun cs => len56 cs _) (hK _ _ rfl hG br)
   · exact mI hG fun hp => eval_const _
 intro vs W hG hp b hb
 have q0 : vs 0 = _ := hp 0 kd
 have q1 : vs 1 = _ := hp 1 kd
 have q2 : ∃ A c, (vs 2) = .slice A (insL l far i).length c ∧ (∀ a, A = some a → W1.heap.size ≤ a.block) ∧ Kd.C k32 W A (insL l far i).length (insL l far i) := hp 2 kd
 have q3 : vs 3 = _ := hp 3 kd
 have q4 : vs 4 = _ := hp 4 kd
 clear hp
 simp only [fillS, Nat.reduceAdd, Nat.zero_add, q0, q1, q3, q4] at hb
 subst hb
 refine wpList_nil ?_
 clear q0 q1 q3 q4
 obtain ⟨Ar, cr, hv, hA, hCr⟩ := q2
 rw [hv]
 clear hv
 refine HK12.out _ _ ?_; clear HK12
 apply wp_block
 have hR2 : Kd.R (Kd.int .u32) 42 W W0.heap.size (fun k => ∀ a, Ar = some a → k ≠ a.block) u (wl l far i ++ ((insL l far i).take 0).map ew) := by
  rw [List.take_zero, List.map_nil, List.append_nil]
  exact Go.Proofs.YtihecimbhhlhaaaW.PrintWords.Kd.R_mono hG.2 (fun k hk a ha => by have := hA a ha; omega)
 refine wp_loopS [8, 11, 12, 13, 21, 36, 42, 43, 44, 45, 46, 47, 48, 49, 50, 51, 52, 53, 54, 55] (fun sl W => ∃ j : Nat, sl 42 = .int .i64 (j : Int) ∧ j ≤ (insL l far i).length ∧ (Below W0.heap.size W0 W ∧ W1.heap.size ≤ W.heap.size) ∧ Kd.C k32 W Ar (insL l far i).length (insL l far i) ∧ ∃ u2, sl 8 = u2 ∧ Kd.R (Kd.int .u32) 42 W W0.heap.size (fun k => ∀ a, Ar = some a → k ≠ a.block) u2 (wl l far i ++ ((insL l far i).take j).map ew)) (fun sl W => Msr (((insL l far i).length : Nat) : Int) (sl 42)) ⟨0, rfl, Nat.zero_le _, hG.1, hCr, _, rfl, hR2⟩ ?_
 clear hG hCr hR2
 intro vs W b hb hI
 obtain ⟨j, hsl, hj, hG, hCr, u2, h8, hR⟩ := hI
 replace hG := And.intro (And.intro hG hCr) hR
 clear hR hCr
 simp only [setSlots, Act.put, List.setIfInBounds_toArray, List.set_cons_succ, List.set_cons_zero] at hb
 subst hb
 replace hsl : vs 42 = .int .i64 (j : Int) := hsl
 replace h8 : vs 8 = u2 := h8
 rw [hsl, h8]
 clear hsl h8
 refine wp_seq_h fun K13 HK13 => ?_
 refine wp_listed (R := fun W W' => Below W.heap.size W W') 1 [.val (.bool (decide ((j : Int) < ((insL l far i).length : Int))))] (fun W => ((Below W0.heap.size W0 W ∧ W1.heap.size ≤ W.heap.size) ∧ Kd.C k32 W Ar (insL l far i).length (insL l far i)) ∧ Kd.R (Kd.int .u32) 42 W W0.heap.size (fun k => ∀ a, Ar = some a → k ≠ a.block) u2 (wl l far i ++ ((insL l far i).take j).map ew)) kr hG ?_ ?_
 · intro vs W hG b hb
   have e41 : b.eval (.tmp 41) = .int .i64 ((insL l far i).length : Int) := eo_ hb
   have e42 : b.eval (.tmp 42) = .int .i64 (j : Int) := eo_ hb
   refine ai ?_ (trivial)
   · exact gv rfl hG fun hp K hK => st_bin rfl (e42) (e41) b_lss hK
 intro vs W hG hp b hb
 have q0 : vs 0 = _ := hp 0 kd
 clear hp
 simp only [fillS, Nat.reduceAdd, Nat.zero_add, q0] at hb
 subst hb
 refine wpList_nil ?_
 clear q0
 refine HK13.out _ _ ?_; clear HK13
 refine wp_seq_h fun K14 HK14 => ?_
 have hIL := insL_two l far i
 have hWL := wl_len l far i
 refine wp_cond_split rfl (fun hlt => ?_) (fun hlt => ?_)
 rotate_left
 · have hle : j = (insL l far i).length := by have := of_decide_eq_false hlt; omega
   clear hlt
   apply wp_exit
   simp only [Exit.inBlock, Exit.then, ↓reduceIte]
   subst hle
   clear hj
   have hRw : Kd.R (Kd.int .u32) 42 W W0.heap.size (fun _ => True) u2 (wl l far (i + 1)) := by
    have h := Go.Proofs.YtihecimbhhlhaaaW.PrintWords.Kd.R_mono hG.2 (ok' := fun _ => True) (fun _ _ => trivial)
    rw [List.take_length] at h
    exact h
   refine HK10.out _ _ ?_; clear HK10
   have hinc : IntKind.i64.wrap ((i : Int) + 1) = (i : Int) + 1 := IntWalk.i64_in _ (m_55)
   have HG := Lib.hid hG.1.1.1
   have HRw := Lib.hid hRw
   have Hil := Lib.hid hil
   clear hG hil hi hRw hIL hWL
   go_wp2
   first | exact ⟨loop_frame kr, ⟨i + 1, m_56, Hil.out, HG.out, u2, rfl, HRw.out⟩, Msr.lt (by have := Hil.out; omega)⟩ | exact ⟨loop_frame kr, ⟨i + 1, m_56, Hil.out, HG.out, HRw.out⟩, Msr.lt (by have := Hil.out; omega)⟩
 have hjl : j < (insL l far i).length := by have := of_decide_eq_true hlt; omega
 clear hlt
 apply wp_skip
 simp only [Exit.then]
 refine HK14.out _ _ ?_; clear HK14
 have hx : (insL l far i)[j]? = some (insL l far i)[j] := List.getElem?_eq_getElem hjl
 generalize (insL l far i)[j] = x at hx
 obtain ⟨ad, hAd, -⟩ := ld_in hG.1.2 hx
 subst hAd
 refine wp_seq_h fun K15 HK15 => ?_
 apply wp_block
 refine wp_seq_h fun K16 HK16 => ?_
 refine wp_listed (R := fun W W' => Below W.heap.size W W') 3 [.val (.pointer (some (ad.add (j * 5)))), .val (.agg (in_ x)), ⟨fun v W => ∃ gx, v = .pointer (some ⟨gx, 0, none⟩) ∧ W.heap[gx]? = some (.cells #[.int .i64 0, .int .i64 0, .int .i64 0, .int .i64 0, .int .i32 0] 32 (0, 0)) ∧ ad.block < gx ∧ W1.heap.size ≤ gx, fun _ _ _ ⟨g, h1, h2, h3⟩ hb => ⟨g, h1, blk_below h2 hb, h3⟩⟩] (fun W => ((Below W0.heap.size W0 W ∧ W1.heap.size ≤ W.heap.size) ∧ Kd.C k32 W (some ad) (insL l far i).length (insL l far i)) ∧ Kd.R (Kd.int .u32) 42 W W0.heap.size (fun k => ∀ a, some ad = some a → k ≠ a.block) u2 (wl l far i ++ ((insL l far i).take j).map ew)) kr hG ?_ ?_
 · intro vs W hG b hb
   have e40 : b.eval (.tmp 40) = .slice (some ad) (insL l far i).length cr := eo_ hb
   have e42 : b.eval (.tmp 42) = .int .i64 (j : Int) := eo_ hb
   refine ai ?_ (ai ?_ (ai ?_ (trivial)))
   · exact gv rfl hG fun hp K hK => st_index rfl (e40) (e42) (ix56 hjl _) hK
   · exact gv rfl hG fun hp K hK => st_load rfl (ev 44 hb 0 (hp 0 kr)) (by obtain ⟨a', ha', hl'⟩ := ld_in hG.1.2 hx; rw [Option.some.inj ha']; exact hl') hK
   · exact g0 fun hp K hK => st_alloc rfl (new32 _) (hK _ _ ⟨_, rfl, blk_new _ _, C32_lt hG.1.2 hjl _ rfl, hG.1.1.2⟩ ⟨⟨⟨hG.1.1.1.alloc hG.1.1.1.size _, Nat.le_trans hG.1.1.2 (br.alloc (Nat.le_refl _) _).size⟩, Kd.C_below hG.1.2 (br.alloc (Nat.le_refl _) _)⟩, Kd.R_alloc hG.2 _⟩ (br.alloc (Nat.le_refl _) _))
 intro vs W hG hp b hb
 have q0 : vs 0 = _ := hp 0 kd
 have q1 : vs 1 = _ := hp 1 kd
 have q2 : ∃ gx, (vs 2) = .pointer (some ⟨gx, 0, none⟩) ∧ W.heap[gx]? = some (.cells #[.int .i64 0, .int .i64 0, .int .i64 0, .int .i64 0, .int .i32 0] 32 (0, 0)) ∧ ad.block < gx ∧ W1.heap.size ≤ gx := hp 2 kd
 clear hp
 simp only [fillS, Nat.reduceAdd, Nat.zero_add, q0, q1] at hb
 subst hb
 simp only [List.append_eq, List.cons_append, List.nil_append, List.drop_succ_cons, List.drop_zero]
 clear q0 q1
 obtain ⟨gx, hv, Ax, hgad, hgx⟩ := q2
 rw [hv]
 clear hv
 refine wpList_store_mid rfl 32 (.tmp 11) (.tmp 45) rfl gx 0 (in_ x) rfl rfl (by have h := blk_there Ax; exact h) kr kr ?_
 refine wpList_nil ?_
 simp only [Act.put]
 have hgx0 : W0.heap.size ≤ gx := by have := HS1.out; omega
 have hX2 := blk_puts (cs' := in_ x) Ax rfl
 have hG2 : (((Below W0.heap.size W0 (W.setCells gx 0 (in_ x).toList) ∧ W1.heap.size ≤ (W.setCells gx 0 (in_ x).toList).heap.size) ∧ Kd.C k32 (W.setCells gx 0 (in_ x).toList) (some ad) (insL l far i).length (insL l far i)) ∧ Kd.R (Kd.int .u32) 42 (W.setCells gx 0 (in_ x).toList) W0.heap.size (fun k => ∀ a, some ad = some a → k ≠ a.block) u2 (wl l far i ++ ((insL l far i).take j).map ew)) ∧ (W.setCells gx 0 (in_ x).toList).heap[gx]? = some (.cells (in_ x) 32 (0, 0)) := ⟨⟨⟨⟨below_sets _ 0 W0 W gx hG.1.1.1 hgx0, by have := blk_lt hX2; omega⟩, C32_keep hG.1.2 (fun a ha => by cases ha; exact World.heap_setCells_other W gx 0 _ (C32_lt hG.1.2 hjl _ rfl) (by omega))⟩, row_sets_ok rfl hG.2 Ax (by decide)⟩, hX2⟩
 clear Ax hG hX2
 generalize W.setCells gx 0 (in_ x).toList = V at hG2 ⊢
 clear W
 refine HK16.out _ _ ?_; clear HK16
 refine wp_seq_h fun K17 HK17 => ?_
 refine wp_listed (R := fun W W' => Below W.heap.size W W') 7 [.val (.agg (in_ x)), .val (.tuple #[.int .u32 (ew x), .bool (Pure.okI x.f0 x.f1 x.f2 x.f3 x.f4)]), .val (.tuple #[.int .u32 (ew x), .bool (Pure.okI x.f0 x.f1 x.f2 x.f3 x.f4)]), .val (.int .u32 (ew x)), .val (.bool (Pure.okI x.f0 x.f1 x.f2 x.f3 x.f4)), .val (.int .u32 (ew x)), .val (.bool (Pure.okI x.f0 x.f1 x.f2 x.f3 x.f4))] (fun W => (((Below W0.heap.size W0 W ∧ W1.heap.size ≤ W.heap.size) ∧ Kd.C k32 W (some ad) (insL l far i).length (insL l far i)) ∧ Kd.R (Kd.int .u32) 42 W W0.heap.size (fun k => ∀ a, some ad = some a → k ≠ a.block) u2 (wl l far i ++ ((insL l far i).take j).map ew)) ∧ W.heap[gx]? = some (.cells (in_ x) 32 (0, 0))) kr hG2 ?_ ?_
 · intro vs W hG b hb
   have e11 : b.eval (.tmp 11) = .pointer (some ⟨gx, 0, none⟩) := eo_ hb
   refine ai ?_ (ai ?_ (ai ?_ (ai ?_ (ai ?_ (ai ?_ (ai ?_ (trivial)))))))
   · exact gv rfl hG fun hp K hK => st_load rfl (e11) (ld_all 32 _ hG.2 Try.underlying32 rfl kr) hK
   · refine g0 fun hp K hK => ?_; have e47 : b.eval (.tmp 47) = _ := ev 47 hb 0 (hp 0 kr); refine st_call rfl (m_60) kr ?_; refine (iEn.calls 12 x.f0 x.f1 x.f2 x.f3 x.f4 (ew x) _ _ (enc_is x)).mono ?_; rintro e w' ⟨rfl, hb'⟩; exact ⟨_, rfl, hK _ _ rfl ⟨⟨⟨⟨below_step hG.1.1.1.1 hb', Nat.le_trans hG.1.1.1.2 hb'.size⟩, Kd.C_below hG.1.1.2 hb'⟩, Kd.R_below hG.1.2 hb'⟩, blk_below hG.2 hb'⟩ hb'⟩
   · exact mI hG fun hp => ev 48 hb 1 (hp 1 kr)
   · exact gv rfl hG fun hp K hK => st_extract rfl (ev 46 hb 2 (hp 2 kr)) kr hK
   · exact gv rfl hG fun hp K hK => st_extract rfl (ev 46 hb 2 (hp 2 kr)) kr hK
   · exact gv rfl hG fun hp K hK => st_move (.inr rfl) (ev 49 hb 3 (hp 3 kr)) hK
   · exact gv rfl hG fun hp K hK => st_move (.inr rfl) (ev 50 hb 4 (hp 4 kr)) hK
 intro vs W hG hp b hb
 have q5 : vs 5 = _ := hp 5 kd
 have q6 : vs 6 = _ := hp 6 kd
 clear hp
 simp only [fillS, Nat.reduceAdd, Nat.zero_add, q5, q6] at hb
 subst hb
 refine wpList_nil ?_
 clear q5 q6
 clear hG2
 refine HK17.out _ _ ?_; clear HK17
 have HB := Lib.hid hG.1.1.1.1
 have HS := Lib.hid hG.1.1.1.2
 have HCr := Lib.hid hG.1.1.2
 have HR := Lib.hid hG.1.2
 have Hil := Lib.hid hil
 have Hjl := Lib.hid hjl
 have Hx := Lib.hid hx
 clear hG hil hjl hx hj hi
 go_wp2_with (first | ((with_reducible refine Go.Proofs.YtihecimbhhlhaaaW.PrintWords.gate_builtin (b := .append) (xs := #[.tmp 51, .tmp 53]) rfl ?_); at_builtin; refine Go.Proofs.YtihecimbhhlhaaaW.PrintWords.Kd.R_append (Kd.int .u32) (w0 := W0) W0.heap.size rfl (.tmp 51) (.tmp 53) 39 42 (.int .u32 0) 4 rfl Try.underlying39 info42 rfl (by decide) (by omega) u2 (wl l far i ++ ((insL l far i).take j).map ew) (ew x) [.int .u32 (ew x)] (fun k => ∀ a, some ad = some a → k ≠ a.block) (fun _ => False) rfl rfl rfl (fun _ hk => hk.elim) (fun k hk a ha => by cases ha; have := C32_lt HCr.out Hjl.out _ rfl; omega) HR.out HB.out (Below.size HB.out) (by rw [List.length_append, List.length_map, List.length_take]; have := HL.out; have := Hil.out; omega) ?_; intro v1 w1 ho hb hg hat) | go_in)
 have hadl := C32_lt HCr.out Hjl.out _ rfl
 have hne : some ad.block ≠ u2.ownBlock := fun e => HR.out.1 ad.block e.symm ad rfl rfl
 rw [map_take_succ Hx.out] at ho
 have hG : ((Below W0.heap.size W0 w1 ∧ W1.heap.size ≤ w1.heap.size) ∧ Kd.C k32 w1 (some ad) (insL l far i).length (insL l far i)) ∧ Kd.R (Kd.int .u32) 42 w1 W0.heap.size (fun k => ∀ a, some ad = some a → k ≠ a.block) v1 (wl l far i ++ ((insL l far i).take (j + 1)).map ew) := ⟨⟨⟨hb, Nat.le_trans HS.out (Nat.le_trans (by simp) hg.size)⟩, C32_keep HCr.out (fun a ha => by cases ha; exact hg.block ad.block hadl hne)⟩, ho⟩
 have HG := Lib.hid hG
 clear hG ho hb hg hat HB HS HCr HR hne hadl
 refine HK15.out _ _ ?_; clear HK15
 have hincj : IntKind.i64.wrap ((j : Int) + 1) = (j : Int) + 1 := IntWalk.i64_in _ (by have := Hjl.out; omega)
 clear hIL hWL
 go_wp2
 exact ⟨loop_frame kr, ⟨j + 1, m_56, Hjl.out, HG.out.1.1, HG.out.1.2, v1, rfl, HG.out.2⟩, Msr.lt (by have := Hjl.out; omega)⟩
end Go.Proofs.Ytihecimbhhlhaaa.Rl
