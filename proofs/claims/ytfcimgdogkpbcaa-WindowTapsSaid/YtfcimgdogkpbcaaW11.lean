/- Window: the law of how many rows and columns come out. -/
import Derived.Test.YtfcimgdogkpbcaaW10
import Derived.Deep.MidRow
namespace Go.Proofs.Ytfcimgdogkpbcaa.W
open Go.RowKit T1 F Dr
set_option linter.unusedVariables false
set_option linter.unusedSimpArgs false
set_option maxRecDepth 100000

abbrev win (n0 n1 k0 k1 s0 s1 p0 p1 p2 p3 : Int) : Obj := .cells #[.int .i64 n0, .int .i64 n1, .int .i64 k0, .int .i64 k1, .int .i64 s0, .int .i64 s1, .int .i64 p0, .int .i64 p1, .int .i64 p2, .int .i64 p3] 37 (0, 0)
structure WS (n0 n1 k0 k1 s0 s1 p0 p1 p2 p3 : Int) (w W : World) : Prop where
  b0 : W.heap[w.heap.size]? = some (win n0 n1 k0 k1 s0 s1 p0 p1 p2 p3)
  bel : Below w.heap.size w W
theorem WS.step {n0 n1 k0 k1 s0 s1 p0 p1 p2 p3 : Int} {w W : World} {W' : World} (J : WS n0 n1 k0 k1 s0 s1 p0 p1 p2 p3 w W) (hb : Below W.heap.size W W') : WS n0 n1 k0 k1 s0 s1 p0 p1 p2 p3 w W' := ⟨blk_below J.b0 hb, below_step J.bel hb⟩
theorem WS.drew {n0 n1 k0 k1 s0 s1 p0 p1 p2 p3 : Int} {w W : World} (J : WS n0 n1 k0 k1 s0 s1 p0 p1 p2 p3 w W) : WS n0 n1 k0 k1 s0 s1 p0 p1 p2 p3 w W.drew := ⟨J.b0, J.bel.drew⟩
theorem WS.alloc {n0 n1 k0 k1 s0 s1 p0 p1 p2 p3 : Int} {w W : World} (J : WS n0 n1 k0 k1 s0 s1 p0 p1 p2 p3 w W) (o : Obj) : WS n0 n1 k0 k1 s0 s1 p0 p1 p2 p3 w (W.alloc o) := J.step ((Below.refl _ _).alloc (Nat.le_refl _) o)
theorem WS.size {n0 n1 k0 k1 s0 s1 p0 p1 p2 p3 : Int} {w W : World} (J : WS n0 n1 k0 k1 s0 s1 p0 p1 p2 p3 w W) : w.heap.size + 1 ≤ W.heap.size := by
  have := (Array.getElem?_eq_some_iff.1 J.b0).1
  omega
theorem WS.start (n0 n1 k0 k1 s0 s1 p0 p1 p2 p3 : Int) (w : World) : WS n0 n1 k0 k1 s0 s1 p0 p1 p2 p3 w (w.alloc (win n0 n1 k0 k1 s0 s1 p0 p1 p2 p3)) := by
  have k0' := blk_new w (win n0 n1 k0 k1 s0 s1 p0 p1 p2 p3)
  exact ⟨k0', below_alloc (Below.refl _ _) _⟩
theorem WS.set {n0 n1 k0 k1 s0 s1 p0 p1 p2 p3 : Int} {w W : World} {g : Nat} (J : WS n0 n1 k0 k1 s0 s1 p0 p1 p2 p3 w W) (hg : w.heap.size + 1 ≤ g) (i : Nat) (v : Value) : WS n0 n1 k0 k1 s0 s1 p0 p1 p2 p3 w (W.setCell ⟨g, i, none⟩ v) :=
  ⟨(Below.heap_setCell _ _ _ _ (by show _ ≠ g; omega)).trans J.b0, below_set J.bel (by omega)⟩
theorem ldm {W : World} {g o : Nat} {cs : Array Value} {t0 : TypeId} (l : List Value) (t : TypeId) (d : TypeDesc) (h : W.heap[g]? = some (.cells cs t0 (0, 0))) (hl : ∀ j v, l[j]? = some v → cs[o + j]? = some v) (hu : Try.prog.underlying t = some d) (hd : d.isRow = true) (hi : (Try.prog.info? t).map (·.size) = some l.length) : (loadVar t ⟨g, o, none⟩).run Try.prog W = .ok (.agg l.toArray) W :=
  run_loadVar_mid W g o t l d (fun j v hv => (blk_cell h (o + j)).trans (hl j v hv)) hu hd hi
theorem ldw0 {n0 n1 k0 k1 s0 s1 p0 p1 p2 p3 : Int} {W : World} {g : Nat} (h : W.heap[g]? = some (win n0 n1 k0 k1 s0 s1 p0 p1 p2 p3)) : (loadVar 34 ⟨g, 0, none⟩).run Try.prog W = .ok (.agg #[.int .i64 n0, .int .i64 n1]) W :=
  ldm [.int .i64 n0, .int .i64 n1] 34 _ h (fun j v hv => by
    match j, hv with
    | 0, hv => exact hv
    | 1, hv => exact hv
    | j + 2, hv => simp at hv) Try.underlying34 rfl (by kernel_rfl)
theorem ldw2 {n0 n1 k0 k1 s0 s1 p0 p1 p2 p3 : Int} {W : World} {g : Nat} (h : W.heap[g]? = some (win n0 n1 k0 k1 s0 s1 p0 p1 p2 p3)) : (loadVar 34 ⟨g, 2, none⟩).run Try.prog W = .ok (.agg #[.int .i64 k0, .int .i64 k1]) W :=
  ldm [.int .i64 k0, .int .i64 k1] 34 _ h (fun j v hv => by
    match j, hv with
    | 0, hv => exact hv
    | 1, hv => exact hv
    | j + 2, hv => simp at hv) Try.underlying34 rfl (by kernel_rfl)
theorem ldw4 {n0 n1 k0 k1 s0 s1 p0 p1 p2 p3 : Int} {W : World} {g : Nat} (h : W.heap[g]? = some (win n0 n1 k0 k1 s0 s1 p0 p1 p2 p3)) : (loadVar 34 ⟨g, 4, none⟩).run Try.prog W = .ok (.agg #[.int .i64 s0, .int .i64 s1]) W :=
  ldm [.int .i64 s0, .int .i64 s1] 34 _ h (fun j v hv => by
    match j, hv with
    | 0, hv => exact hv
    | 1, hv => exact hv
    | j + 2, hv => simp at hv) Try.underlying34 rfl (by kernel_rfl)
theorem ldw6 {n0 n1 k0 k1 s0 s1 p0 p1 p2 p3 : Int} {W : World} {g : Nat} (h : W.heap[g]? = some (win n0 n1 k0 k1 s0 s1 p0 p1 p2 p3)) : (loadVar 35 ⟨g, 6, none⟩).run Try.prog W = .ok (.agg #[.int .i64 p0, .int .i64 p1, .int .i64 p2, .int .i64 p3]) W :=
  ldm [.int .i64 p0, .int .i64 p1, .int .i64 p2, .int .i64 p3] 35 _ h (fun j v hv => by
    match j, hv with
    | 0, hv => exact hv
    | 1, hv => exact hv
    | 2, hv => exact hv
    | 3, hv => exact hv
    | j + 4, hv => simp at hv) Try.underlying35 rfl (by kernel_rfl)
set_option maxHeartbeats 4000000 in
theorem outs_good (n0 n1 k0 k1 s0 s1 p0 p1 p2 p3 : Int) (w : World) (h : goodV n0 n1 k0 k1 s0 s1 p0 p1 p2 p3 = true) : Calls Try.prog 7 #[.agg #[.int .i64 n0, .int .i64 n1, .int .i64 k0, .int .i64 k1, .int .i64 s0, .int .i64 s1, .int .i64 p0, .int .i64 p1, .int .i64 p2, .int .i64 p3]] w (fun e w' => e = .returned (.bool true) ∧ Below w.heap.size w w') := by
  have H := Lib.hid h
  clear h
  have J := Lib.hid (WS.start n0 n1 k0 k1 s0 s1 p0 p1 p2 p3 w)
  go_enter Try.func7, Try.ntmps7
  apply wp_seq_k
  intro K1 hK1
  have HK1 := Lib.hid hK1
  clear hK1
  go_wp2
  refine HK1.out _ _ ?_
  clear HK1
  generalize w.alloc (win n0 n1 k0 k1 s0 s1 p0 p1 p2 p3) = u0 at *
  replace J := J.out
  apply wp_seq_k
  intro K2 hK2
  have HK2 := Lib.hid hK2
  clear hK2
  refine wp_listed (R := fun W W' => Below W.heap.size W W') 13 [.val (.pointer (some ⟨w.heap.size, 0, none⟩)), .val (.agg #[.int .i64 n0, .int .i64 n1]), .val (.pointer (some ⟨w.heap.size, 2, none⟩)), .val (.agg #[.int .i64 k0, .int .i64 k1]), .val (.pointer (some ⟨w.heap.size, 4, none⟩)), .val (.agg #[.int .i64 s0, .int .i64 s1]), .val (.pointer (some ⟨w.heap.size, 6, none⟩)), .val (.agg #[.int .i64 p0, .int .i64 p1, .int .i64 p2, .int .i64 p3]), .val (.tuple #[.agg #[.int .i64 (((n0 + p0 + p2) - k0) / s0 + 1), .int .i64 (((n1 + p1 + p3) - k1) / s1 + 1)], .bool true]), .val (.tuple #[.agg #[.int .i64 (((n0 + p0 + p2) - k0) / s0 + 1), .int .i64 (((n1 + p1 + p3) - k1) / s1 + 1)], .bool true]), .val (.agg #[.int .i64 (((n0 + p0 + p2) - k0) / s0 + 1), .int .i64 (((n1 + p1 + p3) - k1) / s1 + 1)]), .val (.bool true), newSpec (box2 0 0) (w.heap.size + 1)] (fun W => WS n0 n1 k0 k1 s0 s1 p0 p1 p2 p3 w W) (by kernel_rfl) J ?_ ?_
  · intro vs W hG b hb
    have e1 : b.eval (.tmp 1) = .pointer (some ⟨w.heap.size, 0, none⟩) := (congrArg (fun x => Act.eval x (.tmp 1)) hb).trans ((fill_out _ 0 _ (by kernel_rfl)).trans rfl)
    have i5 : b.eval (.tmp 5) = vs 9 := (congrArg (fun x => Act.eval x (.tmp 5)) hb).trans ((fill_in _ 0 9 _ _ 5 (by kernel_rfl) rfl rfl (by simp)).trans (congrArg vs (Nat.zero_add _)))
    have i6 : b.eval (.tmp 6) = vs 0 := (congrArg (fun x => Act.eval x (.tmp 6)) hb).trans ((fill_in _ 0 0 _ _ 6 (by kernel_rfl) rfl rfl (by simp)).trans (congrArg vs (Nat.zero_add _)))
    have i7 : b.eval (.tmp 7) = vs 1 := (congrArg (fun x => Act.eval x (.tmp 7)) hb).trans ((fill_in _ 0 1 _ _ 7 (by kernel_rfl) rfl rfl (by simp)).trans (congrArg vs (Nat.zero_add _)))
    have i8 : b.eval (.tmp 8) = vs 2 := (congrArg (fun x => Act.eval x (.tmp 8)) hb).trans ((fill_in _ 0 2 _ _ 8 (by kernel_rfl) rfl rfl (by simp)).trans (congrArg vs (Nat.zero_add _)))
    have i9 : b.eval (.tmp 9) = vs 3 := (congrArg (fun x => Act.eval x (.tmp 9)) hb).trans ((fill_in _ 0 3 _ _ 9 (by kernel_rfl) rfl rfl (by simp)).trans (congrArg vs (Nat.zero_add _)))
    have i10 : b.eval (.tmp 10) = vs 4 := (congrArg (fun x => Act.eval x (.tmp 10)) hb).trans ((fill_in _ 0 4 _ _ 10 (by kernel_rfl) rfl rfl (by simp)).trans (congrArg vs (Nat.zero_add _)))
    have i11 : b.eval (.tmp 11) = vs 5 := (congrArg (fun x => Act.eval x (.tmp 11)) hb).trans ((fill_in _ 0 5 _ _ 11 (by kernel_rfl) rfl rfl (by simp)).trans (congrArg vs (Nat.zero_add _)))
    have i12 : b.eval (.tmp 12) = vs 6 := (congrArg (fun x => Act.eval x (.tmp 12)) hb).trans ((fill_in _ 0 6 _ _ 12 (by kernel_rfl) rfl rfl (by simp)).trans (congrArg vs (Nat.zero_add _)))
    have i13 : b.eval (.tmp 13) = vs 7 := (congrArg (fun x => Act.eval x (.tmp 13)) hb).trans ((fill_in _ 0 7 _ _ 13 (by kernel_rfl) rfl rfl (by simp)).trans (congrArg vs (Nat.zero_add _)))
    have i14 : b.eval (.tmp 14) = vs 8 := (congrArg (fun x => Act.eval x (.tmp 14)) hb).trans ((fill_in _ 0 8 _ _ 14 (by kernel_rfl) rfl rfl (by simp)).trans (congrArg vs (Nat.zero_add _)))
    clear hb
    refine And.intro ?_ (And.intro ?_ (And.intro ?_ (And.intro ?_ (And.intro ?_ (And.intro ?_ (And.intro ?_ (And.intro ?_ (And.intro ?_ (And.intro ?_ (And.intro ?_ (And.intro ?_ (And.intro ?_ (trivial)))))))))))))
    · intro hp K hK
      refine g_no rfl ?_
      exact st_field rfl (e1) (by kernel_rfl) (hK _ _ rfl hG (Below.refl _ _))
    · intro hp K hK
      refine g_no rfl ?_
      have e6 : b.eval (.tmp 6) = .pointer (some ⟨w.heap.size, 0, none⟩) := i6.trans (hp 0 (by kernel_rfl))
      exact st_load rfl (e6) (ldw0 hG.b0) (hK _ _ rfl hG (Below.refl _ _))
    · intro hp K hK
      refine g_no rfl ?_
      exact st_field rfl (e1) (by kernel_rfl) (hK _ _ rfl hG (Below.refl _ _))
    · intro hp K hK
      refine g_no rfl ?_
      have e8 : b.eval (.tmp 8) = .pointer (some ⟨w.heap.size, 2, none⟩) := i8.trans (hp 2 (by kernel_rfl))
      exact st_load rfl (e8) (ldw2 hG.b0) (hK _ _ rfl hG (Below.refl _ _))
    · intro hp K hK
      refine g_no rfl ?_
      exact st_field rfl (e1) (by kernel_rfl) (hK _ _ rfl hG (Below.refl _ _))
    · intro hp K hK
      refine g_no rfl ?_
      have e10 : b.eval (.tmp 10) = .pointer (some ⟨w.heap.size, 4, none⟩) := i10.trans (hp 4 (by kernel_rfl))
      exact st_load rfl (e10) (ldw4 hG.b0) (hK _ _ rfl hG (Below.refl _ _))
    · intro hp K hK
      refine g_no rfl ?_
      exact st_field rfl (e1) (by kernel_rfl) (hK _ _ rfl hG (Below.refl _ _))
    · intro hp K hK
      refine g_no rfl ?_
      have e12 : b.eval (.tmp 12) = .pointer (some ⟨w.heap.size, 6, none⟩) := i12.trans (hp 6 (by kernel_rfl))
      exact st_load rfl (e12) (ldw6 hG.b0) (hK _ _ rfl hG (Below.refl _ _))
    · intro hp K hK
      refine g_no rfl ?_
      have e7 : b.eval (.tmp 7) = .agg #[.int .i64 n0, .int .i64 n1] := i7.trans (hp 1 (by kernel_rfl))
      have e9 : b.eval (.tmp 9) = .agg #[.int .i64 k0, .int .i64 k1] := i9.trans (hp 3 (by kernel_rfl))
      have e11 : b.eval (.tmp 11) = .agg #[.int .i64 s0, .int .i64 s1] := i11.trans (hp 5 (by kernel_rfl))
      have e13 : b.eval (.tmp 13) = .agg #[.int .i64 p0, .int .i64 p1, .int .i64 p2, .int .i64 p3] := i13.trans (hp 7 (by kernel_rfl))
      refine st_call rfl (by first | (simp only [List.map_toArray, List.map_cons, List.map_nil, eval_const, e7, e9, e11, e13]; done) | (simp only [List.map_toArray, List.map_cons, List.map_nil, eval_const, e7, e9, e11, e13]; rfl)) (by kernel_rfl) ?_
      refine (Out_good n0 n1 k0 k1 s0 s1 p0 p1 p2 p3 _ H.out).mono ?_
      rintro e w' ⟨rfl, hb'⟩
      exact ⟨_, rfl, hK _ _ rfl (hG.step hb') hb'⟩
    · intro hp K hK
      refine g_no rfl ?_
      have e14 : b.eval (.tmp 14) = .tuple #[.agg #[.int .i64 (((n0 + p0 + p2) - k0) / s0 + 1), .int .i64 (((n1 + p1 + p3) - k1) / s1 + 1)], .bool true] := i14.trans (hp 8 (by kernel_rfl))
      exact st_move (.inl rfl) (e14) (hK _ _ rfl hG (Below.refl _ _))
    · intro hp K hK
      refine g_no rfl ?_
      have e5 : b.eval (.tmp 5) = .tuple #[.agg #[.int .i64 (((n0 + p0 + p2) - k0) / s0 + 1), .int .i64 (((n1 + p1 + p3) - k1) / s1 + 1)], .bool true] := i5.trans (hp 9 (by kernel_rfl))
      exact st_extract rfl (e5) (by kernel_rfl) (hK _ _ rfl hG (Below.refl _ _))
    · intro hp K hK
      refine g_no rfl ?_
      have e5 : b.eval (.tmp 5) = .tuple #[.agg #[.int .i64 (((n0 + p0 + p2) - k0) / s0 + 1), .int .i64 (((n1 + p1 + p3) - k1) / s1 + 1)], .bool true] := i5.trans (hp 9 (by kernel_rfl))
      exact st_extract rfl (e5) (by kernel_rfl) (hK _ _ rfl hG (Below.refl _ _))
    · intro hp K hK
      refine g_no rfl ?_
      exact st_alloc rfl (new2 _) (hK _ _ ⟨_, rfl, blk_new _ _, hG.size⟩ (hG.alloc _) ((Below.refl _ _).alloc (Nat.le_refl _) _))
  intro vs W hG hp b hb
  have q0 : vs 0 = .pointer (some ⟨w.heap.size, 0, none⟩) := hp 0 (by decide)
  have q1 : vs 1 = .agg #[.int .i64 n0, .int .i64 n1] := hp 1 (by decide)
  have q2 : vs 2 = .pointer (some ⟨w.heap.size, 2, none⟩) := hp 2 (by decide)
  have q3 : vs 3 = .agg #[.int .i64 k0, .int .i64 k1] := hp 3 (by decide)
  have q4 : vs 4 = .pointer (some ⟨w.heap.size, 4, none⟩) := hp 4 (by decide)
  have q5 : vs 5 = .agg #[.int .i64 s0, .int .i64 s1] := hp 5 (by decide)
  have q6 : vs 6 = .pointer (some ⟨w.heap.size, 6, none⟩) := hp 6 (by decide)
  have q7 : vs 7 = .agg #[.int .i64 p0, .int .i64 p1, .int .i64 p2, .int .i64 p3] := hp 7 (by decide)
  have q8 : vs 8 = .tuple #[.agg #[.int .i64 (((n0 + p0 + p2) - k0) / s0 + 1), .int .i64 (((n1 + p1 + p3) - k1) / s1 + 1)], .bool true] := hp 8 (by decide)
  have q9 : vs 9 = .tuple #[.agg #[.int .i64 (((n0 + p0 + p2) - k0) / s0 + 1), .int .i64 (((n1 + p1 + p3) - k1) / s1 + 1)], .bool true] := hp 9 (by decide)
  have q10 : vs 10 = .agg #[.int .i64 (((n0 + p0 + p2) - k0) / s0 + 1), .int .i64 (((n1 + p1 + p3) - k1) / s1 + 1)] := hp 10 (by decide)
  have q11 : vs 11 = .bool true := hp 11 (by decide)
  have q12 : ∃ gg, (vs 12) = .pointer (some ⟨gg, 0, none⟩) ∧ W.heap[gg]? = some (box2 0 0) ∧ w.heap.size + 1 ≤ gg := hp 12 (by decide)
  clear hp
  simp only [fill, Act.put, List.append_eq, List.cons_append, List.nil_append, List.take_succ_cons, List.take_zero, List.setIfInBounds_toArray, List.set_cons_succ, List.set_cons_zero, Nat.reduceAdd, Nat.zero_add, q0, q1, q2, q3, q4, q5, q6, q7, q8, q9, q10, q11] at hb
  subst hb
  simp only [List.append_eq, List.cons_append, List.nil_append, List.drop_succ_cons, List.drop_zero]
  clear q0 q1 q2 q3 q4 q5 q6 q7 q8 q9 q10 q11
  obtain ⟨g, hv, A, hg⟩ := q12
  rw [hv]
  clear hv J
  have z0 : _ = some (Value.int .i64 0) := (blk_cell A 0).trans rfl
  have y0 := blk_frozen A 0
  have z1 : _ = some (Value.int .i64 0) := (blk_cell A 1).trans rfl
  have y1 := blk_frozen A 1
  have hJ := Lib.hid hG
  clear hG
  go_wp2
  replace hJ := hJ.out
  have hG := (hJ.set hg 0 (.int .i64 (((n0 + p0 + p2) - k0) / s0 + 1))).set hg 1 (.int .i64 (((n1 + p1 + p3) - k1) / s1 + 1))
  have hA : ((W.setCell ⟨g, 0, none⟩ (.int .i64 (((n0 + p0 + p2) - k0) / s0 + 1))).setCell ⟨g, 1, none⟩ (.int .i64 (((n1 + p1 + p3) - k1) / s1 + 1))).heap[g]? = some (box2 (((n0 + p0 + p2) - k0) / s0 + 1) (((n1 + p1 + p3) - k1) / s1 + 1)) := blk_put (blk_put A 0 _ rfl) 1 _ rfl
  generalize (W.setCell ⟨g, 0, none⟩ (.int .i64 (((n0 + p0 + p2) - k0) / s0 + 1))).setCell ⟨g, 1, none⟩ (.int .i64 (((n1 + p1 + p3) - k1) / s1 + 1)) = V at *
  clear hJ A z0 z1 y0 y1
  refine HK2.out _ _ ?_
  clear HK2
  apply wp_seq_k
  intro K3 hK3
  have HK3 := Lib.hid hK3
  clear hK3
  apply wp_seq_k
  intro K4 hK4
  have HK4 := Lib.hid hK4
  clear hK4
  refine wp_listed (R := fun W W' => Below W.heap.size W W') 10 [.val (.pointer (some ⟨w.heap.size, 0, none⟩)), .val (.agg #[.int .i64 n0, .int .i64 n1]), .val (.pointer (some ⟨w.heap.size, 2, none⟩)), .val (.agg #[.int .i64 k0, .int .i64 k1]), .val (.pointer (some ⟨w.heap.size, 4, none⟩)), .val (.agg #[.int .i64 s0, .int .i64 s1]), .val (.pointer (some ⟨w.heap.size, 6, none⟩)), .val (.agg #[.int .i64 p0, .int .i64 p1, .int .i64 p2, .int .i64 p3]), .val (.bool true), .val (.bool (!true))] (fun W => WS n0 n1 k0 k1 s0 s1 p0 p1 p2 p3 w W ∧ W.heap[g]? = some (box2 (((n0 + p0 + p2) - k0) / s0 + 1) (((n1 + p1 + p3) - k1) / s1 + 1))) (by kernel_rfl) ⟨hG, hA⟩ ?_ ?_
  · intro vs W hG b hb
    have e1 : b.eval (.tmp 1) = .pointer (some ⟨w.heap.size, 0, none⟩) := (congrArg (fun x => Act.eval x (.tmp 1)) hb).trans ((fill_out _ 0 _ (by kernel_rfl)).trans rfl)
    have i17 : b.eval (.tmp 17) = vs 0 := (congrArg (fun x => Act.eval x (.tmp 17)) hb).trans ((fill_in _ 0 0 _ _ 17 (by kernel_rfl) rfl rfl (by simp)).trans (congrArg vs (Nat.zero_add _)))
    have i18 : b.eval (.tmp 18) = vs 1 := (congrArg (fun x => Act.eval x (.tmp 18)) hb).trans ((fill_in _ 0 1 _ _ 18 (by kernel_rfl) rfl rfl (by simp)).trans (congrArg vs (Nat.zero_add _)))
    have i19 : b.eval (.tmp 19) = vs 2 := (congrArg (fun x => Act.eval x (.tmp 19)) hb).trans ((fill_in _ 0 2 _ _ 19 (by kernel_rfl) rfl rfl (by simp)).trans (congrArg vs (Nat.zero_add _)))
    have i20 : b.eval (.tmp 20) = vs 3 := (congrArg (fun x => Act.eval x (.tmp 20)) hb).trans ((fill_in _ 0 3 _ _ 20 (by kernel_rfl) rfl rfl (by simp)).trans (congrArg vs (Nat.zero_add _)))
    have i21 : b.eval (.tmp 21) = vs 4 := (congrArg (fun x => Act.eval x (.tmp 21)) hb).trans ((fill_in _ 0 4 _ _ 21 (by kernel_rfl) rfl rfl (by simp)).trans (congrArg vs (Nat.zero_add _)))
    have i22 : b.eval (.tmp 22) = vs 5 := (congrArg (fun x => Act.eval x (.tmp 22)) hb).trans ((fill_in _ 0 5 _ _ 22 (by kernel_rfl) rfl rfl (by simp)).trans (congrArg vs (Nat.zero_add _)))
    have i23 : b.eval (.tmp 23) = vs 6 := (congrArg (fun x => Act.eval x (.tmp 23)) hb).trans ((fill_in _ 0 6 _ _ 23 (by kernel_rfl) rfl rfl (by simp)).trans (congrArg vs (Nat.zero_add _)))
    have i24 : b.eval (.tmp 24) = vs 7 := (congrArg (fun x => Act.eval x (.tmp 24)) hb).trans ((fill_in _ 0 7 _ _ 24 (by kernel_rfl) rfl rfl (by simp)).trans (congrArg vs (Nat.zero_add _)))
    have i25 : b.eval (.tmp 25) = vs 8 := (congrArg (fun x => Act.eval x (.tmp 25)) hb).trans ((fill_in _ 0 8 _ _ 25 (by kernel_rfl) rfl rfl (by simp)).trans (congrArg vs (Nat.zero_add _)))
    clear hb
    refine And.intro ?_ (And.intro ?_ (And.intro ?_ (And.intro ?_ (And.intro ?_ (And.intro ?_ (And.intro ?_ (And.intro ?_ (And.intro ?_ (And.intro ?_ (trivial))))))))))
    · intro hp K hK
      refine g_no rfl ?_
      exact st_field rfl (e1) (by kernel_rfl) (hK _ _ rfl hG (Below.refl _ _))
    · intro hp K hK
      refine g_no rfl ?_
      have e17 : b.eval (.tmp 17) = .pointer (some ⟨w.heap.size, 0, none⟩) := i17.trans (hp 0 (by kernel_rfl))
      exact st_load rfl (e17) (ldw0 hG.1.b0) (hK _ _ rfl hG (Below.refl _ _))
    · intro hp K hK
      refine g_no rfl ?_
      exact st_field rfl (e1) (by kernel_rfl) (hK _ _ rfl hG (Below.refl _ _))
    · intro hp K hK
      refine g_no rfl ?_
      have e19 : b.eval (.tmp 19) = .pointer (some ⟨w.heap.size, 2, none⟩) := i19.trans (hp 2 (by kernel_rfl))
      exact st_load rfl (e19) (ldw2 hG.1.b0) (hK _ _ rfl hG (Below.refl _ _))
    · intro hp K hK
      refine g_no rfl ?_
      exact st_field rfl (e1) (by kernel_rfl) (hK _ _ rfl hG (Below.refl _ _))
    · intro hp K hK
      refine g_no rfl ?_
      have e21 : b.eval (.tmp 21) = .pointer (some ⟨w.heap.size, 4, none⟩) := i21.trans (hp 4 (by kernel_rfl))
      exact st_load rfl (e21) (ldw4 hG.1.b0) (hK _ _ rfl hG (Below.refl _ _))
    · intro hp K hK
      refine g_no rfl ?_
      exact st_field rfl (e1) (by kernel_rfl) (hK _ _ rfl hG (Below.refl _ _))
    · intro hp K hK
      refine g_no rfl ?_
      have e23 : b.eval (.tmp 23) = .pointer (some ⟨w.heap.size, 6, none⟩) := i23.trans (hp 6 (by kernel_rfl))
      exact st_load rfl (e23) (ldw6 hG.1.b0) (hK _ _ rfl hG (Below.refl _ _))
    · intro hp K hK
      refine g_no rfl ?_
      have e18 : b.eval (.tmp 18) = .agg #[.int .i64 n0, .int .i64 n1] := i18.trans (hp 1 (by kernel_rfl))
      have e20 : b.eval (.tmp 20) = .agg #[.int .i64 k0, .int .i64 k1] := i20.trans (hp 3 (by kernel_rfl))
      have e22 : b.eval (.tmp 22) = .agg #[.int .i64 s0, .int .i64 s1] := i22.trans (hp 5 (by kernel_rfl))
      have e24 : b.eval (.tmp 24) = .agg #[.int .i64 p0, .int .i64 p1, .int .i64 p2, .int .i64 p3] := i24.trans (hp 7 (by kernel_rfl))
      refine st_call rfl (by first | (simp only [List.map_toArray, List.map_cons, List.map_nil, eval_const, e18, e20, e22, e24]; done) | (simp only [List.map_toArray, List.map_cons, List.map_nil, eval_const, e18, e20, e22, e24]; rfl)) (by kernel_rfl) ?_
      refine ((refGood n0 n1 k0 k1 s0 s1 p0 p1 p2 p3 _).mono (fun e w' h => ⟨h.1.trans (by rw [H.out]), h.2⟩ : ∀ e w', _ → (e = .returned (.bool true) ∧ Below _ _ w'))).mono ?_
      rintro e w' ⟨rfl, hb'⟩
      exact ⟨_, rfl, hK _ _ rfl ⟨hG.1.step hb', blk_below hG.2 hb'⟩ hb'⟩
    · intro hp K hK
      refine g_no rfl ?_
      have e25 : b.eval (.tmp 25) = .bool true := i25.trans (hp 8 (by kernel_rfl))
      exact st_un rfl (e25) u_not (hK _ _ rfl hG (Below.refl _ _))
  intro vs W hG hp b hb
  have q9 : vs 9 = .bool (!true) := hp 9 (by decide)
  clear hp
  simp only [fill, Act.put, List.append_eq, List.cons_append, List.nil_append, List.take_succ_cons, List.take_zero, List.setIfInBounds_toArray, List.set_cons_succ, List.set_cons_zero, Nat.reduceAdd, Nat.zero_add, q9] at hb
  subst hb
  refine wpList_nil ?_
  clear q9
  clear hA
  refine HK4.out _ _ ?_
  clear HK4
  have hG := Lib.hid hG
  go_wp2
  replace hG := hG.out
  refine HK3.out _ _ ?_
  clear HK3
  apply wp_seq_k
  intro K5 hK5
  have HK5 := Lib.hid hK5
  clear hK5
  refine wp_drawn (R := fun W W' => Below W.heap.size W W') 18 [.val (.agg #[.int .i64 (((n0 + p0 + p2) - k0) / s0 + 1), .int .i64 (((n1 + p1 + p3) - k1) / s1 + 1)]), .val (.pointer (some ⟨w.heap.size, 0, none⟩)), .val (.agg #[.int .i64 n0, .int .i64 n1]), .val (.pointer (some ⟨w.heap.size, 2, none⟩)), .val (.agg #[.int .i64 k0, .int .i64 k1]), .val (.pointer (some ⟨w.heap.size, 4, none⟩)), .val (.agg #[.int .i64 s0, .int .i64 s1]), .val (.pointer (some ⟨w.heap.size, 6, none⟩)), .val (.agg #[.int .i64 p0, .int .i64 p1, .int .i64 p2, .int .i64 p3]), .val (.agg #[.int .i64 (((n0 + p0 + p2) - k0) / s0 + 1), .int .i64 (((n1 + p1 + p3) - k1) / s1 + 1)]), .val (.bool true), .val (.bool true), .val ((bif ((true) == true) then (.bool true) else undef)), .val (.bool (true && true)), .val (.bool (true && true)), .val ((bif ((true && true) == true) then (.bool true) else undef)), .val (.bool ((true && true) && true)), .val (.bool ((true && true) && true))] (fun W => WS n0 n1 k0 k1 s0 s1 p0 p1 p2 p3 w W ∧ W.heap[g]? = some (box2 (((n0 + p0 + p2) - k0) / s0 + 1) (((n1 + p1 + p3) - k1) / s1 + 1))) rfl (by kernel_rfl) ⟨hG.1.drew, hG.2⟩ ?_ ?_
  · intro vs W hG b hb
    have e1 : b.eval (.tmp 1) = .pointer (some ⟨w.heap.size, 0, none⟩) := (congrArg (fun x => Act.eval x (.tmp 1)) hb).trans ((fill_out _ 0 _ (by kernel_rfl)).trans rfl)
    have e3 : b.eval (.tmp 3) = .pointer (some ⟨g, 0, none⟩) := (congrArg (fun x => Act.eval x (.tmp 3)) hb).trans ((fill_out _ 0 _ (by kernel_rfl)).trans rfl)
    have e4 : b.eval (.tmp 4) = .bool true := (congrArg (fun x => Act.eval x (.tmp 4)) hb).trans ((fill_out _ 0 _ (by kernel_rfl)).trans rfl)
    have i37 : b.eval (.tmp 37) = vs 0 := (congrArg (fun x => Act.eval x (.tmp 37)) hb).trans ((fill_in _ 0 0 _ _ 37 (by kernel_rfl) rfl rfl (by simp)).trans (congrArg vs (Nat.zero_add _)))
    have i38 : b.eval (.tmp 38) = vs 1 := (congrArg (fun x => Act.eval x (.tmp 38)) hb).trans ((fill_in _ 0 1 _ _ 38 (by kernel_rfl) rfl rfl (by simp)).trans (congrArg vs (Nat.zero_add _)))
    have i39 : b.eval (.tmp 39) = vs 2 := (congrArg (fun x => Act.eval x (.tmp 39)) hb).trans ((fill_in _ 0 2 _ _ 39 (by kernel_rfl) rfl rfl (by simp)).trans (congrArg vs (Nat.zero_add _)))
    have i40 : b.eval (.tmp 40) = vs 3 := (congrArg (fun x => Act.eval x (.tmp 40)) hb).trans ((fill_in _ 0 3 _ _ 40 (by kernel_rfl) rfl rfl (by simp)).trans (congrArg vs (Nat.zero_add _)))
    have i41 : b.eval (.tmp 41) = vs 4 := (congrArg (fun x => Act.eval x (.tmp 41)) hb).trans ((fill_in _ 0 4 _ _ 41 (by kernel_rfl) rfl rfl (by simp)).trans (congrArg vs (Nat.zero_add _)))
    have i42 : b.eval (.tmp 42) = vs 5 := (congrArg (fun x => Act.eval x (.tmp 42)) hb).trans ((fill_in _ 0 5 _ _ 42 (by kernel_rfl) rfl rfl (by simp)).trans (congrArg vs (Nat.zero_add _)))
    have i43 : b.eval (.tmp 43) = vs 6 := (congrArg (fun x => Act.eval x (.tmp 43)) hb).trans ((fill_in _ 0 6 _ _ 43 (by kernel_rfl) rfl rfl (by simp)).trans (congrArg vs (Nat.zero_add _)))
    have i44 : b.eval (.tmp 44) = vs 7 := (congrArg (fun x => Act.eval x (.tmp 44)) hb).trans ((fill_in _ 0 7 _ _ 44 (by kernel_rfl) rfl rfl (by simp)).trans (congrArg vs (Nat.zero_add _)))
    have i45 : b.eval (.tmp 45) = vs 8 := (congrArg (fun x => Act.eval x (.tmp 45)) hb).trans ((fill_in _ 0 8 _ _ 45 (by kernel_rfl) rfl rfl (by simp)).trans (congrArg vs (Nat.zero_add _)))
    have i46 : b.eval (.tmp 46) = vs 9 := (congrArg (fun x => Act.eval x (.tmp 46)) hb).trans ((fill_in _ 0 9 _ _ 46 (by kernel_rfl) rfl rfl (by simp)).trans (congrArg vs (Nat.zero_add _)))
    have i47 : b.eval (.tmp 47) = vs 10 := (congrArg (fun x => Act.eval x (.tmp 47)) hb).trans ((fill_in _ 0 10 _ _ 47 (by kernel_rfl) rfl rfl (by simp)).trans (congrArg vs (Nat.zero_add _)))
    have i48 : b.eval (.tmp 48) = vs 11 := (congrArg (fun x => Act.eval x (.tmp 48)) hb).trans ((fill_in _ 0 11 _ _ 48 (by kernel_rfl) rfl rfl (by simp)).trans (congrArg vs (Nat.zero_add _)))
    have i49 : b.eval (.tmp 49) = vs 12 := (congrArg (fun x => Act.eval x (.tmp 49)) hb).trans ((fill_in _ 0 12 _ _ 49 (by kernel_rfl) rfl rfl (by simp)).trans (congrArg vs (Nat.zero_add _)))
    have i50 : b.eval (.tmp 50) = vs 13 := (congrArg (fun x => Act.eval x (.tmp 50)) hb).trans ((fill_in _ 0 13 _ _ 50 (by kernel_rfl) rfl rfl (by simp)).trans (congrArg vs (Nat.zero_add _)))
    have i51 : b.eval (.tmp 51) = vs 14 := (congrArg (fun x => Act.eval x (.tmp 51)) hb).trans ((fill_in _ 0 14 _ _ 51 (by kernel_rfl) rfl rfl (by simp)).trans (congrArg vs (Nat.zero_add _)))
    have i52 : b.eval (.tmp 52) = vs 15 := (congrArg (fun x => Act.eval x (.tmp 52)) hb).trans ((fill_in _ 0 15 _ _ 52 (by kernel_rfl) rfl rfl (by simp)).trans (congrArg vs (Nat.zero_add _)))
    have i53 : b.eval (.tmp 53) = vs 16 := (congrArg (fun x => Act.eval x (.tmp 53)) hb).trans ((fill_in _ 0 16 _ _ 53 (by kernel_rfl) rfl rfl (by simp)).trans (congrArg vs (Nat.zero_add _)))
    clear hb
    refine And.intro ?_ (And.intro ?_ (And.intro ?_ (And.intro ?_ (And.intro ?_ (And.intro ?_ (And.intro ?_ (And.intro ?_ (And.intro ?_ (And.intro ?_ (And.intro ?_ (And.intro ?_ (And.intro ?_ (And.intro ?_ (And.intro ?_ (And.intro ?_ (And.intro ?_ (And.intro ?_ (trivial))))))))))))))))))
    · intro hp K hK
      refine g_no rfl ?_
      exact st_load rfl (e3) (ld2 hG.2) (hK _ _ rfl hG (Below.refl _ _))
    · intro hp K hK
      refine g_no rfl ?_
      exact st_field rfl (e1) (by kernel_rfl) (hK _ _ rfl hG (Below.refl _ _))
    · intro hp K hK
      refine g_no rfl ?_
      have e38 : b.eval (.tmp 38) = .pointer (some ⟨w.heap.size, 0, none⟩) := i38.trans (hp 1 (by kernel_rfl))
      exact st_load rfl (e38) (ldw0 hG.1.b0) (hK _ _ rfl hG (Below.refl _ _))
    · intro hp K hK
      refine g_no rfl ?_
      exact st_field rfl (e1) (by kernel_rfl) (hK _ _ rfl hG (Below.refl _ _))
    · intro hp K hK
      refine g_no rfl ?_
      have e40 : b.eval (.tmp 40) = .pointer (some ⟨w.heap.size, 2, none⟩) := i40.trans (hp 3 (by kernel_rfl))
      exact st_load rfl (e40) (ldw2 hG.1.b0) (hK _ _ rfl hG (Below.refl _ _))
    · intro hp K hK
      refine g_no rfl ?_
      exact st_field rfl (e1) (by kernel_rfl) (hK _ _ rfl hG (Below.refl _ _))
    · intro hp K hK
      refine g_no rfl ?_
      have e42 : b.eval (.tmp 42) = .pointer (some ⟨w.heap.size, 4, none⟩) := i42.trans (hp 5 (by kernel_rfl))
      exact st_load rfl (e42) (ldw4 hG.1.b0) (hK _ _ rfl hG (Below.refl _ _))
    · intro hp K hK
      refine g_no rfl ?_
      exact st_field rfl (e1) (by kernel_rfl) (hK _ _ rfl hG (Below.refl _ _))
    · intro hp K hK
      refine g_no rfl ?_
      have e44 : b.eval (.tmp 44) = .pointer (some ⟨w.heap.size, 6, none⟩) := i44.trans (hp 7 (by kernel_rfl))
      exact st_load rfl (e44) (ldw6 hG.1.b0) (hK _ _ rfl hG (Below.refl _ _))
    · intro hp K hK
      refine g_no rfl ?_
      have e39 : b.eval (.tmp 39) = .agg #[.int .i64 n0, .int .i64 n1] := i39.trans (hp 2 (by kernel_rfl))
      have e41 : b.eval (.tmp 41) = .agg #[.int .i64 k0, .int .i64 k1] := i41.trans (hp 4 (by kernel_rfl))
      have e43 : b.eval (.tmp 43) = .agg #[.int .i64 s0, .int .i64 s1] := i43.trans (hp 6 (by kernel_rfl))
      have e45 : b.eval (.tmp 45) = .agg #[.int .i64 p0, .int .i64 p1, .int .i64 p2, .int .i64 p3] := i45.trans (hp 8 (by kernel_rfl))
      refine st_call rfl (by first | (simp only [List.map_toArray, List.map_cons, List.map_nil, eval_const, e39, e41, e43, e45]; done) | (simp only [List.map_toArray, List.map_cons, List.map_nil, eval_const, e39, e41, e43, e45]; rfl)) (by kernel_rfl) ?_
      refine (refOut n0 n1 k0 k1 s0 s1 p0 p1 p2 p3 _ H.out).mono ?_
      rintro e w' ⟨rfl, hb'⟩
      exact ⟨_, rfl, hK _ _ rfl ⟨hG.1.step hb', blk_below hG.2 hb'⟩ hb'⟩
    · intro hp K hK
      refine g_no rfl ?_
      have e37 : b.eval (.tmp 37) = .agg #[.int .i64 (((n0 + p0 + p2) - k0) / s0 + 1), .int .i64 (((n1 + p1 + p3) - k1) / s1 + 1)] := i37.trans (hp 0 (by kernel_rfl))
      have e46 : b.eval (.tmp 46) = .agg #[.int .i64 (((n0 + p0 + p2) - k0) / s0 + 1), .int .i64 (((n1 + p1 + p3) - k1) / s1 + 1)] := i46.trans (hp 9 (by kernel_rfl))
      exact st_bin rfl (e37) (e46) ((beq2 (((n0 + p0 + p2) - k0) / s0 + 1) (((n1 + p1 + p3) - k1) / s1 + 1) (((n0 + p0 + p2) - k0) / s0 + 1) (((n1 + p1 + p3) - k1) / s1 + 1) _).trans (by simp)) (hK _ _ rfl hG (Below.refl _ _))
    · intro hp K hK
      refine g_no rfl ?_
      have e47 : b.eval (.tmp 47) = .bool true := i47.trans (hp 10 (by kernel_rfl))
      exact st_move (.inl rfl) (e47) (hK _ _ rfl hG (Below.refl _ _))
    · intro hp K hK
      refine g_is (j := 11) (want := true) (c := true) rfl (yielded_of (d := 48) rfl rfl (i48.trans (hp 11 (by kernel_rfl)))) (fun hb => ?_) (fun hb => hK _ _ (cond_no hb) hG (Below.refl _ _))
      exact st_move (.inl rfl) (e4) (hK _ _ (cond_yes hb).symm hG (Below.refl _ _))
    · intro hp K hK
      refine g_no rfl ?_
      have e48 : b.eval (.tmp 48) = .bool true := i48.trans (hp 11 (by kernel_rfl))
      have e49 : b.eval (.tmp 49) = (bif ((true) == true) then (.bool true) else undef) := i49.trans (hp 12 (by kernel_rfl))
      exact st_pick rfl (e48) (by first | (rw [e49]; exact pick_and) | (rw [show b.eval (Operand.tmp 49) = _ from eval_const _]; exact pick_and)) (hK _ _ rfl hG (Below.refl _ _))
    · intro hp K hK
      refine g_no rfl ?_
      have e50 : b.eval (.tmp 50) = .bool (true && true) := i50.trans (hp 13 (by kernel_rfl))
      exact st_move (.inl rfl) (e50) (hK _ _ rfl hG (Below.refl _ _))
    · intro hp K hK
      refine g_is (j := 14) (want := true) (c := true && true) rfl (yielded_of (d := 51) rfl rfl (i51.trans (hp 14 (by kernel_rfl)))) (fun hb => ?_) (fun hb => hK _ _ (cond_no hb) hG (Below.refl _ _))
      refine st_call rfl (by first | (simp only [List.map_toArray, List.map_cons, List.map_nil, eval_const]; done) | (simp only [List.map_toArray, List.map_cons, List.map_nil, eval_const]; rfl)) (by kernel_rfl) ?_
      refine (lives_is _).mono ?_
      rintro e w' ⟨rfl, hb'⟩
      exact ⟨_, rfl, hK _ _ (cond_yes hb).symm ⟨hG.1.step hb', blk_below hG.2 hb'⟩ hb'⟩
    · intro hp K hK
      refine g_no rfl ?_
      have e51 : b.eval (.tmp 51) = .bool (true && true) := i51.trans (hp 14 (by kernel_rfl))
      have e52 : b.eval (.tmp 52) = (bif ((true && true) == true) then (.bool true) else undef) := i52.trans (hp 15 (by kernel_rfl))
      exact st_pick rfl (e51) (by first | (rw [e52]; exact pick_and) | (rw [show b.eval (Operand.tmp 52) = _ from eval_const _]; exact pick_and)) (hK _ _ rfl hG (Below.refl _ _))
    · intro hp K hK
      refine g_no rfl ?_
      have e53 : b.eval (.tmp 53) = .bool ((true && true) && true) := i53.trans (hp 16 (by kernel_rfl))
      exact st_move (.inr rfl) (e53) (hK _ _ rfl hG (Below.refl _ _))
  intro vs W hG hp b hb
  have q17 : vs 17 = .bool ((true && true) && true) := hp 17 (by decide)
  clear hp
  simp only [fill, Act.put, List.append_eq, List.cons_append, List.nil_append, List.take_succ_cons, List.take_zero, List.setIfInBounds_toArray, List.set_cons_succ, List.set_cons_zero, Nat.reduceAdd, Nat.zero_add, q17] at hb
  subst hb
  refine wpList_nil ?_
  clear q17
  refine HK5.out _ _ ?_
  clear HK5
  have hG := Lib.hid hG
  go_wp2
  go_ret
  exact ⟨rfl, hG.out.1.bel⟩
set_option maxHeartbeats 4000000 in
theorem outs_bad (n0 n1 k0 k1 s0 s1 p0 p1 p2 p3 : Int) (w : World) (h : goodV n0 n1 k0 k1 s0 s1 p0 p1 p2 p3 = false) : Calls Try.prog 7 #[.agg #[.int .i64 n0, .int .i64 n1, .int .i64 k0, .int .i64 k1, .int .i64 s0, .int .i64 s1, .int .i64 p0, .int .i64 p1, .int .i64 p2, .int .i64 p3]] w (fun e w' => e = .returned (.bool true) ∧ Below w.heap.size w w') := by
  have H := Lib.hid h
  clear h
  have J := Lib.hid (WS.start n0 n1 k0 k1 s0 s1 p0 p1 p2 p3 w)
  go_enter Try.func7, Try.ntmps7
  apply wp_seq_k
  intro K1 hK1
  have HK1 := Lib.hid hK1
  clear hK1
  go_wp2
  refine HK1.out _ _ ?_
  clear HK1
  generalize w.alloc (win n0 n1 k0 k1 s0 s1 p0 p1 p2 p3) = u0 at *
  replace J := J.out
  apply wp_seq_k
  intro K2 hK2
  have HK2 := Lib.hid hK2
  clear hK2
  refine wp_listed (R := fun W W' => Below W.heap.size W W') 13 [.val (.pointer (some ⟨w.heap.size, 0, none⟩)), .val (.agg #[.int .i64 n0, .int .i64 n1]), .val (.pointer (some ⟨w.heap.size, 2, none⟩)), .val (.agg #[.int .i64 k0, .int .i64 k1]), .val (.pointer (some ⟨w.heap.size, 4, none⟩)), .val (.agg #[.int .i64 s0, .int .i64 s1]), .val (.pointer (some ⟨w.heap.size, 6, none⟩)), .val (.agg #[.int .i64 p0, .int .i64 p1, .int .i64 p2, .int .i64 p3]), .val (.tuple #[.agg #[.int .i64 0, .int .i64 0], .bool false]), .val (.tuple #[.agg #[.int .i64 0, .int .i64 0], .bool false]), .val (.agg #[.int .i64 0, .int .i64 0]), .val (.bool false), newSpec (box2 0 0) (w.heap.size + 1)] (fun W => WS n0 n1 k0 k1 s0 s1 p0 p1 p2 p3 w W) (by kernel_rfl) J ?_ ?_
  · intro vs W hG b hb
    have e1 : b.eval (.tmp 1) = .pointer (some ⟨w.heap.size, 0, none⟩) := (congrArg (fun x => Act.eval x (.tmp 1)) hb).trans ((fill_out _ 0 _ (by kernel_rfl)).trans rfl)
    have i5 : b.eval (.tmp 5) = vs 9 := (congrArg (fun x => Act.eval x (.tmp 5)) hb).trans ((fill_in _ 0 9 _ _ 5 (by kernel_rfl) rfl rfl (by simp)).trans (congrArg vs (Nat.zero_add _)))
    have i6 : b.eval (.tmp 6) = vs 0 := (congrArg (fun x => Act.eval x (.tmp 6)) hb).trans ((fill_in _ 0 0 _ _ 6 (by kernel_rfl) rfl rfl (by simp)).trans (congrArg vs (Nat.zero_add _)))
    have i7 : b.eval (.tmp 7) = vs 1 := (congrArg (fun x => Act.eval x (.tmp 7)) hb).trans ((fill_in _ 0 1 _ _ 7 (by kernel_rfl) rfl rfl (by simp)).trans (congrArg vs (Nat.zero_add _)))
    have i8 : b.eval (.tmp 8) = vs 2 := (congrArg (fun x => Act.eval x (.tmp 8)) hb).trans ((fill_in _ 0 2 _ _ 8 (by kernel_rfl) rfl rfl (by simp)).trans (congrArg vs (Nat.zero_add _)))
    have i9 : b.eval (.tmp 9) = vs 3 := (congrArg (fun x => Act.eval x (.tmp 9)) hb).trans ((fill_in _ 0 3 _ _ 9 (by kernel_rfl) rfl rfl (by simp)).trans (congrArg vs (Nat.zero_add _)))
    have i10 : b.eval (.tmp 10) = vs 4 := (congrArg (fun x => Act.eval x (.tmp 10)) hb).trans ((fill_in _ 0 4 _ _ 10 (by kernel_rfl) rfl rfl (by simp)).trans (congrArg vs (Nat.zero_add _)))
    have i11 : b.eval (.tmp 11) = vs 5 := (congrArg (fun x => Act.eval x (.tmp 11)) hb).trans ((fill_in _ 0 5 _ _ 11 (by kernel_rfl) rfl rfl (by simp)).trans (congrArg vs (Nat.zero_add _)))
    have i12 : b.eval (.tmp 12) = vs 6 := (congrArg (fun x => Act.eval x (.tmp 12)) hb).trans ((fill_in _ 0 6 _ _ 12 (by kernel_rfl) rfl rfl (by simp)).trans (congrArg vs (Nat.zero_add _)))
    have i13 : b.eval (.tmp 13) = vs 7 := (congrArg (fun x => Act.eval x (.tmp 13)) hb).trans ((fill_in _ 0 7 _ _ 13 (by kernel_rfl) rfl rfl (by simp)).trans (congrArg vs (Nat.zero_add _)))
    have i14 : b.eval (.tmp 14) = vs 8 := (congrArg (fun x => Act.eval x (.tmp 14)) hb).trans ((fill_in _ 0 8 _ _ 14 (by kernel_rfl) rfl rfl (by simp)).trans (congrArg vs (Nat.zero_add _)))
    clear hb
    refine And.intro ?_ (And.intro ?_ (And.intro ?_ (And.intro ?_ (And.intro ?_ (And.intro ?_ (And.intro ?_ (And.intro ?_ (And.intro ?_ (And.intro ?_ (And.intro ?_ (And.intro ?_ (And.intro ?_ (trivial)))))))))))))
    · intro hp K hK
      refine g_no rfl ?_
      exact st_field rfl (e1) (by kernel_rfl) (hK _ _ rfl hG (Below.refl _ _))
    · intro hp K hK
      refine g_no rfl ?_
      have e6 : b.eval (.tmp 6) = .pointer (some ⟨w.heap.size, 0, none⟩) := i6.trans (hp 0 (by kernel_rfl))
      exact st_load rfl (e6) (ldw0 hG.b0) (hK _ _ rfl hG (Below.refl _ _))
    · intro hp K hK
      refine g_no rfl ?_
      exact st_field rfl (e1) (by kernel_rfl) (hK _ _ rfl hG (Below.refl _ _))
    · intro hp K hK
      refine g_no rfl ?_
      have e8 : b.eval (.tmp 8) = .pointer (some ⟨w.heap.size, 2, none⟩) := i8.trans (hp 2 (by kernel_rfl))
      exact st_load rfl (e8) (ldw2 hG.b0) (hK _ _ rfl hG (Below.refl _ _))
    · intro hp K hK
      refine g_no rfl ?_
      exact st_field rfl (e1) (by kernel_rfl) (hK _ _ rfl hG (Below.refl _ _))
    · intro hp K hK
      refine g_no rfl ?_
      have e10 : b.eval (.tmp 10) = .pointer (some ⟨w.heap.size, 4, none⟩) := i10.trans (hp 4 (by kernel_rfl))
      exact st_load rfl (e10) (ldw4 hG.b0) (hK _ _ rfl hG (Below.refl _ _))
    · intro hp K hK
      refine g_no rfl ?_
      exact st_field rfl (e1) (by kernel_rfl) (hK _ _ rfl hG (Below.refl _ _))
    · intro hp K hK
      refine g_no rfl ?_
      have e12 : b.eval (.tmp 12) = .pointer (some ⟨w.heap.size, 6, none⟩) := i12.trans (hp 6 (by kernel_rfl))
      exact st_load rfl (e12) (ldw6 hG.b0) (hK _ _ rfl hG (Below.refl _ _))
    · intro hp K hK
      refine g_no rfl ?_
      have e7 : b.eval (.tmp 7) = .agg #[.int .i64 n0, .int .i64 n1] := i7.trans (hp 1 (by kernel_rfl))
      have e9 : b.eval (.tmp 9) = .agg #[.int .i64 k0, .int .i64 k1] := i9.trans (hp 3 (by kernel_rfl))
      have e11 : b.eval (.tmp 11) = .agg #[.int .i64 s0, .int .i64 s1] := i11.trans (hp 5 (by kernel_rfl))
      have e13 : b.eval (.tmp 13) = .agg #[.int .i64 p0, .int .i64 p1, .int .i64 p2, .int .i64 p3] := i13.trans (hp 7 (by kernel_rfl))
      refine st_call rfl (by first | (simp only [List.map_toArray, List.map_cons, List.map_nil, eval_const, e7, e9, e11, e13]; done) | (simp only [List.map_toArray, List.map_cons, List.map_nil, eval_const, e7, e9, e11, e13]; rfl)) (by kernel_rfl) ?_
      refine (Out_bad n0 n1 k0 k1 s0 s1 p0 p1 p2 p3 _ H.out).mono ?_
      rintro e w' ⟨rfl, hb'⟩
      exact ⟨_, rfl, hK _ _ rfl (hG.step hb') hb'⟩
    · intro hp K hK
      refine g_no rfl ?_
      have e14 : b.eval (.tmp 14) = .tuple #[.agg #[.int .i64 0, .int .i64 0], .bool false] := i14.trans (hp 8 (by kernel_rfl))
      exact st_move (.inl rfl) (e14) (hK _ _ rfl hG (Below.refl _ _))
    · intro hp K hK
      refine g_no rfl ?_
      have e5 : b.eval (.tmp 5) = .tuple #[.agg #[.int .i64 0, .int .i64 0], .bool false] := i5.trans (hp 9 (by kernel_rfl))
      exact st_extract rfl (e5) (by kernel_rfl) (hK _ _ rfl hG (Below.refl _ _))
    · intro hp K hK
      refine g_no rfl ?_
      have e5 : b.eval (.tmp 5) = .tuple #[.agg #[.int .i64 0, .int .i64 0], .bool false] := i5.trans (hp 9 (by kernel_rfl))
      exact st_extract rfl (e5) (by kernel_rfl) (hK _ _ rfl hG (Below.refl _ _))
    · intro hp K hK
      refine g_no rfl ?_
      exact st_alloc rfl (new2 _) (hK _ _ ⟨_, rfl, blk_new _ _, hG.size⟩ (hG.alloc _) ((Below.refl _ _).alloc (Nat.le_refl _) _))
  intro vs W hG hp b hb
  have q0 : vs 0 = .pointer (some ⟨w.heap.size, 0, none⟩) := hp 0 (by decide)
  have q1 : vs 1 = .agg #[.int .i64 n0, .int .i64 n1] := hp 1 (by decide)
  have q2 : vs 2 = .pointer (some ⟨w.heap.size, 2, none⟩) := hp 2 (by decide)
  have q3 : vs 3 = .agg #[.int .i64 k0, .int .i64 k1] := hp 3 (by decide)
  have q4 : vs 4 = .pointer (some ⟨w.heap.size, 4, none⟩) := hp 4 (by decide)
  have q5 : vs 5 = .agg #[.int .i64 s0, .int .i64 s1] := hp 5 (by decide)
  have q6 : vs 6 = .pointer (some ⟨w.heap.size, 6, none⟩) := hp 6 (by decide)
  have q7 : vs 7 = .agg #[.int .i64 p0, .int .i64 p1, .int .i64 p2, .int .i64 p3] := hp 7 (by decide)
  have q8 : vs 8 = .tuple #[.agg #[.int .i64 0, .int .i64 0], .bool false] := hp 8 (by decide)
  have q9 : vs 9 = .tuple #[.agg #[.int .i64 0, .int .i64 0], .bool false] := hp 9 (by decide)
  have q10 : vs 10 = .agg #[.int .i64 0, .int .i64 0] := hp 10 (by decide)
  have q11 : vs 11 = .bool false := hp 11 (by decide)
  have q12 : ∃ gg, (vs 12) = .pointer (some ⟨gg, 0, none⟩) ∧ W.heap[gg]? = some (box2 0 0) ∧ w.heap.size + 1 ≤ gg := hp 12 (by decide)
  clear hp
  simp only [fill, Act.put, List.append_eq, List.cons_append, List.nil_append, List.take_succ_cons, List.take_zero, List.setIfInBounds_toArray, List.set_cons_succ, List.set_cons_zero, Nat.reduceAdd, Nat.zero_add, q0, q1, q2, q3, q4, q5, q6, q7, q8, q9, q10, q11] at hb
  subst hb
  simp only [List.append_eq, List.cons_append, List.nil_append, List.drop_succ_cons, List.drop_zero]
  clear q0 q1 q2 q3 q4 q5 q6 q7 q8 q9 q10 q11
  obtain ⟨g, hv, A, hg⟩ := q12
  rw [hv]
  clear hv J
  have z0 : _ = some (Value.int .i64 0) := (blk_cell A 0).trans rfl
  have y0 := blk_frozen A 0
  have z1 : _ = some (Value.int .i64 0) := (blk_cell A 1).trans rfl
  have y1 := blk_frozen A 1
  have hJ := Lib.hid hG
  clear hG
  go_wp2
  replace hJ := hJ.out
  have hG := (hJ.set hg 0 (.int .i64 0)).set hg 1 (.int .i64 0)
  have hA : ((W.setCell ⟨g, 0, none⟩ (.int .i64 0)).setCell ⟨g, 1, none⟩ (.int .i64 0)).heap[g]? = some (box2 0 0) := blk_put (blk_put A 0 _ rfl) 1 _ rfl
  generalize (W.setCell ⟨g, 0, none⟩ (.int .i64 0)).setCell ⟨g, 1, none⟩ (.int .i64 0) = V at *
  clear hJ A z0 z1 y0 y1
  refine HK2.out _ _ ?_
  clear HK2
  apply wp_seq_k
  intro K3 hK3
  have HK3 := Lib.hid hK3
  clear hK3
  apply wp_seq_k
  intro K4 hK4
  have HK4 := Lib.hid hK4
  clear hK4
  refine wp_listed (R := fun W W' => Below W.heap.size W W') 10 [.val (.pointer (some ⟨w.heap.size, 0, none⟩)), .val (.agg #[.int .i64 n0, .int .i64 n1]), .val (.pointer (some ⟨w.heap.size, 2, none⟩)), .val (.agg #[.int .i64 k0, .int .i64 k1]), .val (.pointer (some ⟨w.heap.size, 4, none⟩)), .val (.agg #[.int .i64 s0, .int .i64 s1]), .val (.pointer (some ⟨w.heap.size, 6, none⟩)), .val (.agg #[.int .i64 p0, .int .i64 p1, .int .i64 p2, .int .i64 p3]), .val (.bool false), .val (.bool (!false))] (fun W => WS n0 n1 k0 k1 s0 s1 p0 p1 p2 p3 w W ∧ W.heap[g]? = some (box2 0 0)) (by kernel_rfl) ⟨hG, hA⟩ ?_ ?_
  · intro vs W hG b hb
    have e1 : b.eval (.tmp 1) = .pointer (some ⟨w.heap.size, 0, none⟩) := (congrArg (fun x => Act.eval x (.tmp 1)) hb).trans ((fill_out _ 0 _ (by kernel_rfl)).trans rfl)
    have i17 : b.eval (.tmp 17) = vs 0 := (congrArg (fun x => Act.eval x (.tmp 17)) hb).trans ((fill_in _ 0 0 _ _ 17 (by kernel_rfl) rfl rfl (by simp)).trans (congrArg vs (Nat.zero_add _)))
    have i18 : b.eval (.tmp 18) = vs 1 := (congrArg (fun x => Act.eval x (.tmp 18)) hb).trans ((fill_in _ 0 1 _ _ 18 (by kernel_rfl) rfl rfl (by simp)).trans (congrArg vs (Nat.zero_add _)))
    have i19 : b.eval (.tmp 19) = vs 2 := (congrArg (fun x => Act.eval x (.tmp 19)) hb).trans ((fill_in _ 0 2 _ _ 19 (by kernel_rfl) rfl rfl (by simp)).trans (congrArg vs (Nat.zero_add _)))
    have i20 : b.eval (.tmp 20) = vs 3 := (congrArg (fun x => Act.eval x (.tmp 20)) hb).trans ((fill_in _ 0 3 _ _ 20 (by kernel_rfl) rfl rfl (by simp)).trans (congrArg vs (Nat.zero_add _)))
    have i21 : b.eval (.tmp 21) = vs 4 := (congrArg (fun x => Act.eval x (.tmp 21)) hb).trans ((fill_in _ 0 4 _ _ 21 (by kernel_rfl) rfl rfl (by simp)).trans (congrArg vs (Nat.zero_add _)))
    have i22 : b.eval (.tmp 22) = vs 5 := (congrArg (fun x => Act.eval x (.tmp 22)) hb).trans ((fill_in _ 0 5 _ _ 22 (by kernel_rfl) rfl rfl (by simp)).trans (congrArg vs (Nat.zero_add _)))
    have i23 : b.eval (.tmp 23) = vs 6 := (congrArg (fun x => Act.eval x (.tmp 23)) hb).trans ((fill_in _ 0 6 _ _ 23 (by kernel_rfl) rfl rfl (by simp)).trans (congrArg vs (Nat.zero_add _)))
    have i24 : b.eval (.tmp 24) = vs 7 := (congrArg (fun x => Act.eval x (.tmp 24)) hb).trans ((fill_in _ 0 7 _ _ 24 (by kernel_rfl) rfl rfl (by simp)).trans (congrArg vs (Nat.zero_add _)))
    have i25 : b.eval (.tmp 25) = vs 8 := (congrArg (fun x => Act.eval x (.tmp 25)) hb).trans ((fill_in _ 0 8 _ _ 25 (by kernel_rfl) rfl rfl (by simp)).trans (congrArg vs (Nat.zero_add _)))
    clear hb
    refine And.intro ?_ (And.intro ?_ (And.intro ?_ (And.intro ?_ (And.intro ?_ (And.intro ?_ (And.intro ?_ (And.intro ?_ (And.intro ?_ (And.intro ?_ (trivial))))))))))
    · intro hp K hK
      refine g_no rfl ?_
      exact st_field rfl (e1) (by kernel_rfl) (hK _ _ rfl hG (Below.refl _ _))
    · intro hp K hK
      refine g_no rfl ?_
      have e17 : b.eval (.tmp 17) = .pointer (some ⟨w.heap.size, 0, none⟩) := i17.trans (hp 0 (by kernel_rfl))
      exact st_load rfl (e17) (ldw0 hG.1.b0) (hK _ _ rfl hG (Below.refl _ _))
    · intro hp K hK
      refine g_no rfl ?_
      exact st_field rfl (e1) (by kernel_rfl) (hK _ _ rfl hG (Below.refl _ _))
    · intro hp K hK
      refine g_no rfl ?_
      have e19 : b.eval (.tmp 19) = .pointer (some ⟨w.heap.size, 2, none⟩) := i19.trans (hp 2 (by kernel_rfl))
      exact st_load rfl (e19) (ldw2 hG.1.b0) (hK _ _ rfl hG (Below.refl _ _))
    · intro hp K hK
      refine g_no rfl ?_
      exact st_field rfl (e1) (by kernel_rfl) (hK _ _ rfl hG (Below.refl _ _))
    · intro hp K hK
      refine g_no rfl ?_
      have e21 : b.eval (.tmp 21) = .pointer (some ⟨w.heap.size, 4, none⟩) := i21.trans (hp 4 (by kernel_rfl))
      exact st_load rfl (e21) (ldw4 hG.1.b0) (hK _ _ rfl hG (Below.refl _ _))
    · intro hp K hK
      refine g_no rfl ?_
      exact st_field rfl (e1) (by kernel_rfl) (hK _ _ rfl hG (Below.refl _ _))
    · intro hp K hK
      refine g_no rfl ?_
      have e23 : b.eval (.tmp 23) = .pointer (some ⟨w.heap.size, 6, none⟩) := i23.trans (hp 6 (by kernel_rfl))
      exact st_load rfl (e23) (ldw6 hG.1.b0) (hK _ _ rfl hG (Below.refl _ _))
    · intro hp K hK
      refine g_no rfl ?_
      have e18 : b.eval (.tmp 18) = .agg #[.int .i64 n0, .int .i64 n1] := i18.trans (hp 1 (by kernel_rfl))
      have e20 : b.eval (.tmp 20) = .agg #[.int .i64 k0, .int .i64 k1] := i20.trans (hp 3 (by kernel_rfl))
      have e22 : b.eval (.tmp 22) = .agg #[.int .i64 s0, .int .i64 s1] := i22.trans (hp 5 (by kernel_rfl))
      have e24 : b.eval (.tmp 24) = .agg #[.int .i64 p0, .int .i64 p1, .int .i64 p2, .int .i64 p3] := i24.trans (hp 7 (by kernel_rfl))
      refine st_call rfl (by first | (simp only [List.map_toArray, List.map_cons, List.map_nil, eval_const, e18, e20, e22, e24]; done) | (simp only [List.map_toArray, List.map_cons, List.map_nil, eval_const, e18, e20, e22, e24]; rfl)) (by kernel_rfl) ?_
      refine ((refGood n0 n1 k0 k1 s0 s1 p0 p1 p2 p3 _).mono (fun e w' h => ⟨h.1.trans (by rw [H.out]), h.2⟩ : ∀ e w', _ → (e = .returned (.bool false) ∧ Below _ _ w'))).mono ?_
      rintro e w' ⟨rfl, hb'⟩
      exact ⟨_, rfl, hK _ _ rfl ⟨hG.1.step hb', blk_below hG.2 hb'⟩ hb'⟩
    · intro hp K hK
      refine g_no rfl ?_
      have e25 : b.eval (.tmp 25) = .bool false := i25.trans (hp 8 (by kernel_rfl))
      exact st_un rfl (e25) u_not (hK _ _ rfl hG (Below.refl _ _))
  intro vs W hG hp b hb
  have q9 : vs 9 = .bool (!false) := hp 9 (by decide)
  clear hp
  simp only [fill, Act.put, List.append_eq, List.cons_append, List.nil_append, List.take_succ_cons, List.take_zero, List.setIfInBounds_toArray, List.set_cons_succ, List.set_cons_zero, Nat.reduceAdd, Nat.zero_add, q9] at hb
  subst hb
  refine wpList_nil ?_
  clear q9
  clear hA
  refine HK4.out _ _ ?_
  clear HK4
  have hG := Lib.hid hG
  apply wp_cond_true rfl
  replace hG := hG.out
  apply wp_seq_k
  intro K5 hK5
  have HK5 := Lib.hid hK5
  clear hK5
  refine wp_listed (R := fun W W' => Below W.heap.size W W') 11 [.val (.agg #[.int .i64 0, .int .i64 0]), .val (.agg #[.int .i64 0, .int .i64 0]), .val (.bool true), .val (.bool true), .val ((bif ((true) == true) then (.bool false) else undef)), .val ((bif ((true) == true) then (.bool (!false)) else undef)), .val (.bool (true && (!false))), .val (.bool (true && (!false))), .val ((bif ((true && (!false)) == true) then (.bool true) else undef)), .val (.bool ((true && (!false)) && true)), .val (.bool ((true && (!false)) && true))] (fun W => WS n0 n1 k0 k1 s0 s1 p0 p1 p2 p3 w W ∧ W.heap[g]? = some (box2 0 0)) (by kernel_rfl) hG ?_ ?_
  · intro vs W hG b hb
    have e3 : b.eval (.tmp 3) = .pointer (some ⟨g, 0, none⟩) := (congrArg (fun x => Act.eval x (.tmp 3)) hb).trans ((fill_out _ 0 _ (by kernel_rfl)).trans rfl)
    have e4 : b.eval (.tmp 4) = .bool false := (congrArg (fun x => Act.eval x (.tmp 4)) hb).trans ((fill_out _ 0 _ (by kernel_rfl)).trans rfl)
    have i27 : b.eval (.tmp 27) = vs 0 := (congrArg (fun x => Act.eval x (.tmp 27)) hb).trans ((fill_in _ 0 0 _ _ 27 (by kernel_rfl) rfl rfl (by simp)).trans (congrArg vs (Nat.zero_add _)))
    have i28 : b.eval (.tmp 28) = vs 1 := (congrArg (fun x => Act.eval x (.tmp 28)) hb).trans ((fill_in _ 0 1 _ _ 28 (by kernel_rfl) rfl rfl (by simp)).trans (congrArg vs (Nat.zero_add _)))
    have i29 : b.eval (.tmp 29) = vs 2 := (congrArg (fun x => Act.eval x (.tmp 29)) hb).trans ((fill_in _ 0 2 _ _ 29 (by kernel_rfl) rfl rfl (by simp)).trans (congrArg vs (Nat.zero_add _)))
    have i30 : b.eval (.tmp 30) = vs 3 := (congrArg (fun x => Act.eval x (.tmp 30)) hb).trans ((fill_in _ 0 3 _ _ 30 (by kernel_rfl) rfl rfl (by simp)).trans (congrArg vs (Nat.zero_add _)))
    have i31 : b.eval (.tmp 31) = vs 4 := (congrArg (fun x => Act.eval x (.tmp 31)) hb).trans ((fill_in _ 0 4 _ _ 31 (by kernel_rfl) rfl rfl (by simp)).trans (congrArg vs (Nat.zero_add _)))
    have i32 : b.eval (.tmp 32) = vs 5 := (congrArg (fun x => Act.eval x (.tmp 32)) hb).trans ((fill_in _ 0 5 _ _ 32 (by kernel_rfl) rfl rfl (by simp)).trans (congrArg vs (Nat.zero_add _)))
    have i33 : b.eval (.tmp 33) = vs 6 := (congrArg (fun x => Act.eval x (.tmp 33)) hb).trans ((fill_in _ 0 6 _ _ 33 (by kernel_rfl) rfl rfl (by simp)).trans (congrArg vs (Nat.zero_add _)))
    have i34 : b.eval (.tmp 34) = vs 7 := (congrArg (fun x => Act.eval x (.tmp 34)) hb).trans ((fill_in _ 0 7 _ _ 34 (by kernel_rfl) rfl rfl (by simp)).trans (congrArg vs (Nat.zero_add _)))
    have i35 : b.eval (.tmp 35) = vs 8 := (congrArg (fun x => Act.eval x (.tmp 35)) hb).trans ((fill_in _ 0 8 _ _ 35 (by kernel_rfl) rfl rfl (by simp)).trans (congrArg vs (Nat.zero_add _)))
    have i36 : b.eval (.tmp 36) = vs 9 := (congrArg (fun x => Act.eval x (.tmp 36)) hb).trans ((fill_in _ 0 9 _ _ 36 (by kernel_rfl) rfl rfl (by simp)).trans (congrArg vs (Nat.zero_add _)))
    clear hb
    refine And.intro ?_ (And.intro ?_ (And.intro ?_ (And.intro ?_ (And.intro ?_ (And.intro ?_ (And.intro ?_ (And.intro ?_ (And.intro ?_ (And.intro ?_ (And.intro ?_ (trivial)))))))))))
    · intro hp K hK
      refine g_no rfl ?_
      exact st_load rfl (e3) (ld2 hG.2) (hK _ _ rfl hG (Below.refl _ _))
    · intro hp K hK
      refine g_no rfl ?_
      exact st_build rfl (by first | (simp only [List.map_toArray, List.map_cons, List.map_nil, eval_const]; done) | (simp only [List.map_toArray, List.map_cons, List.map_nil, eval_const]; rfl)) (by kernel_rfl) (hK _ _ rfl hG (Below.refl _ _))
    · intro hp K hK
      refine g_no rfl ?_
      have e27 : b.eval (.tmp 27) = .agg #[.int .i64 0, .int .i64 0] := i27.trans (hp 0 (by kernel_rfl))
      have e28 : b.eval (.tmp 28) = .agg #[.int .i64 0, .int .i64 0] := i28.trans (hp 1 (by kernel_rfl))
      exact st_bin rfl (e27) (e28) (beq2 0 0 0 0 _) (hK _ _ rfl hG (Below.refl _ _))
    · intro hp K hK
      refine g_no rfl ?_
      have e29 : b.eval (.tmp 29) = .bool true := i29.trans (hp 2 (by kernel_rfl))
      exact st_move (.inl rfl) (e29) (hK _ _ rfl hG (Below.refl _ _))
    · intro hp K hK
      refine g_is (j := 3) (want := true) (c := true) rfl (yielded_of (d := 30) rfl rfl (i30.trans (hp 3 (by kernel_rfl)))) (fun hb => ?_) (fun hb => hK _ _ (cond_no hb) hG (Below.refl _ _))
      exact st_move (.inl rfl) (e4) (hK _ _ (cond_yes hb).symm hG (Below.refl _ _))
    · intro hp K hK
      refine g_is (j := 3) (want := true) (c := true) rfl (yielded_of (d := 30) rfl rfl (i30.trans (hp 3 (by kernel_rfl)))) (fun hb => ?_) (fun hb => hK _ _ (cond_no hb) hG (Below.refl _ _))
      have e31 : b.eval (.tmp 31) = (bif ((true) == true) then (.bool false) else undef) := i31.trans (hp 4 (by kernel_rfl))
      replace e31 := e31.trans (cond_yes hb)
      exact st_un rfl (e31) u_not (hK _ _ (cond_yes hb).symm hG (Below.refl _ _))
    · intro hp K hK
      refine g_no rfl ?_
      have e30 : b.eval (.tmp 30) = .bool true := i30.trans (hp 3 (by kernel_rfl))
      have e32 : b.eval (.tmp 32) = (bif ((true) == true) then (.bool (!false)) else undef) := i32.trans (hp 5 (by kernel_rfl))
      exact st_pick rfl (e30) (by first | (rw [e32]; exact pick_and) | (rw [show b.eval (Operand.tmp 32) = _ from eval_const _]; exact pick_and)) (hK _ _ rfl hG (Below.refl _ _))
    · intro hp K hK
      refine g_no rfl ?_
      have e33 : b.eval (.tmp 33) = .bool (true && (!false)) := i33.trans (hp 6 (by kernel_rfl))
      exact st_move (.inl rfl) (e33) (hK _ _ rfl hG (Below.refl _ _))
    · intro hp K hK
      refine g_is (j := 7) (want := true) (c := true && (!false)) rfl (yielded_of (d := 34) rfl rfl (i34.trans (hp 7 (by kernel_rfl)))) (fun hb => ?_) (fun hb => hK _ _ (cond_no hb) hG (Below.refl _ _))
      refine st_call rfl (by first | (simp only [List.map_toArray, List.map_cons, List.map_nil, eval_const]; done) | (simp only [List.map_toArray, List.map_cons, List.map_nil, eval_const]; rfl)) (by kernel_rfl) ?_
      refine (lives_is _).mono ?_
      rintro e w' ⟨rfl, hb'⟩
      exact ⟨_, rfl, hK _ _ (cond_yes hb).symm ⟨hG.1.step hb', blk_below hG.2 hb'⟩ hb'⟩
    · intro hp K hK
      refine g_no rfl ?_
      have e34 : b.eval (.tmp 34) = .bool (true && (!false)) := i34.trans (hp 7 (by kernel_rfl))
      have e35 : b.eval (.tmp 35) = (bif ((true && (!false)) == true) then (.bool true) else undef) := i35.trans (hp 8 (by kernel_rfl))
      exact st_pick rfl (e34) (by first | (rw [e35]; exact pick_and) | (rw [show b.eval (Operand.tmp 35) = _ from eval_const _]; exact pick_and)) (hK _ _ rfl hG (Below.refl _ _))
    · intro hp K hK
      refine g_no rfl ?_
      have e36 : b.eval (.tmp 36) = .bool ((true && (!false)) && true) := i36.trans (hp 9 (by kernel_rfl))
      exact st_move (.inr rfl) (e36) (hK _ _ rfl hG (Below.refl _ _))
  intro vs W hG hp b hb
  have q10 : vs 10 = .bool ((true && (!false)) && true) := hp 10 (by decide)
  clear hp
  simp only [fill, Act.put, List.append_eq, List.cons_append, List.nil_append, List.take_succ_cons, List.take_zero, List.setIfInBounds_toArray, List.set_cons_succ, List.set_cons_zero, Nat.reduceAdd, Nat.zero_add, q10] at hb
  subst hb
  refine wpList_nil ?_
  clear q10
  refine HK5.out _ _ ?_
  clear HK5
  have hG := Lib.hid hG
  go_wp2
  go_ret
  exact ⟨rfl, hG.out.1.bel⟩
theorem outs_law (n0 n1 k0 k1 s0 s1 p0 p1 p2 p3 : Int) (w : World) : Calls Try.prog 7 #[.agg #[.int .i64 n0, .int .i64 n1, .int .i64 k0, .int .i64 k1, .int .i64 s0, .int .i64 s1, .int .i64 p0, .int .i64 p1, .int .i64 p2, .int .i64 p3]] w (fun e w' => e = .returned (.bool true) ∧ Below w.heap.size w w') := by
  cases h : goodV n0 n1 k0 k1 s0 s1 p0 p1 p2 p3
  · exact outs_bad n0 n1 k0 k1 s0 s1 p0 p1 p2 p3 w h
  · exact outs_good n0 n1 k0 k1 s0 s1 p0 p1 p2 p3 w h
end Go.Proofs.Ytfcimgdogkpbcaa.W
