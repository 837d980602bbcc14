/- Window: of, the frame of a window whose numbers are good. -/
import Derived.Test.YtfcimgdogkpbcaaW3
import Derived.Test.YtfcimgdogkpbcaaDr
namespace Go.Proofs.Ytfcimgdogkpbcaa.W
open Go.RowKit T1 F Dr
set_option linter.unusedVariables false
set_option linter.unusedSimpArgs false
set_option maxRecDepth 100000
attribute [local go_sem] run_store_complex

theorem O.drew {n0 n1 k0 k1 s0 s1 p0 p1 p2 p3 : Int} {w W : World} (J : O n0 n1 k0 k1 s0 s1 p0 p1 p2 p3 w W) : O n0 n1 k0 k1 s0 s1 p0 p1 p2 p3 w W.drew := J.drewN 1
theorem O.alloc {n0 n1 k0 k1 s0 s1 p0 p1 p2 p3 : Int} {w W : World} (J : O n0 n1 k0 k1 s0 s1 p0 p1 p2 p3 w W) (o : Obj) : O n0 n1 k0 k1 s0 s1 p0 p1 p2 p3 w (W.alloc o) := J.step ((Below.refl _ _).alloc (Nat.le_refl _) o)
theorem ld2 {W : World} {g : Nat} {a b : Int} (h : W.heap[g]? = some (box2 a b)) : (loadVar 34 ⟨g, 0, none⟩).run Try.prog W = .ok (.agg #[.int .i64 a, .int .i64 b]) W := run_loadVar_row W g 34 34 _ (0, 0) _ h Try.underlying34 rfl (by kernel_rfl)
theorem ld4 {W : World} {g : Nat} {a b c d : Int} (h : W.heap[g]? = some (box4 a b c d)) : (loadVar 35 ⟨g, 0, none⟩).run Try.prog W = .ok (.agg #[.int .i64 a, .int .i64 b, .int .i64 c, .int .i64 d]) W := run_loadVar_row W g 35 35 _ (0, 0) _ h Try.underlying35 rfl (by kernel_rfl)
theorem ld1 {W : World} {a : Addr} {k : Int} (h : W.cell? a = some (.int .i64 k)) : (loadVar 3 a).run Try.prog W = .ok (.int .i64 k) W := by simp [go_sem, h]
theorem ldp {W : World} {a : Addr} {x y : Int} (h : W.cell? a = some (pl x y)) : (loadVar 51 a).run Try.prog W = .ok (pl x y) W := by simp [go_sem, h]
theorem new5 (W : World) : (Instr.alloc 53 true (.tuple #[])).run Try.prog W = .ok (.pointer (some ⟨W.heap.size, 0, none⟩)) (W.alloc z5) := by simp [go_sem]
theorem bin_st {op : BinOp} {t : TypeId} {x y : Operand} {X Y v : Value} {W : World} (ho : (op matches .eql | .neq) = false) (h : ∀ w, (binOp op t X Y).run Try.prog w = .ok v w) : (do eqGuard op t x y X Y; binOp op t X Y : Sem Value).run Try.prog W = .ok v W := by
  have e : eqGuard op t x y X Y = pure () := by
    unfold eqGuard
    cases op <;> first | (cases ho; done) | rfl
  rw [e]
  simp [h]
/-- A block of the call's own that holds o. -/
def newSpec (o : Obj) (g0 : Nat) : DSpec (fun W W' => Below W.heap.size W W') := ⟨fun v W => ∃ g, v = .pointer (some ⟨g, 0, none⟩) ∧ W.heap[g]? = some o ∧ g0 ≤ g, fun _ _ _ ⟨g, h1, h2, h3⟩ hb => ⟨g, h1, blk_below h2 hb, h3⟩⟩
theorem O.size {n0 n1 k0 k1 s0 s1 p0 p1 p2 p3 : Int} {w W : World} (J : O n0 n1 k0 k1 s0 s1 p0 p1 p2 p3 w W) : w.heap.size + 5 ≤ W.heap.size := by
  have := (Array.getElem?_eq_some_iff.1 J.b4).1
  omega

theorem F0 : F 0 = 0 := by decide +kernel
theorem fgeB (x : Int) (h : Sm x) (b : Bool) (hb : decide (0 ≤ x) = b) : (FloatKind.f64.format.order (F x) 0 == some Ordering.gt || FloatKind.f64.format.order (F x) 0 == some Ordering.eq) = b := by
  have e := order_F x 0 h.lt (by decide)
  rw [F0] at e
  have e' : FloatKind.f64.format.order (F x) 0 = some (compare x 0) := e
  rw [e']
  subst hb
  rcases Int.lt_trichotomy x 0 with hx | hx | hx
  · rw [Int.compare_eq_lt.2 hx, decide_eq_false (show ¬ 0 ≤ x by omega)]; rfl
  · rw [Int.compare_eq_eq.2 hx, decide_eq_true (show 0 ≤ x by omega)]; rfl
  · rw [Int.compare_eq_gt.2 hx, decide_eq_true (show 0 ≤ x by omega)]; rfl
/-- The frame, before and behind its last part is known. -/
abbrev fr5 (n0 n1 k0 k1 s0 s1 p0 p1 : Int) (z : Value) : Obj := .cells #[pl n0 n1, pl k0 k1, pl s0 s1, pl p0 p1, z] 53 (0, 0)
theorem zc0 {W : World} {g : Nat} (A : W.heap[g]? = some z5) : W.cell? ⟨g, 0, none⟩ = some (.complex .f64 0 0) := (blk_cell A 0).trans rfl
theorem zf0 {W : World} {g : Nat} (A : W.heap[g]? = some z5) : W.frozen? ⟨g, 0, none⟩ = false := blk_frozen A 0
theorem zc1 {W : World} {g : Nat} (A : W.heap[g]? = some z5) : W.cell? ⟨g, 1, none⟩ = some (.complex .f64 0 0) := (blk_cell A 1).trans rfl
theorem zf1 {W : World} {g : Nat} (A : W.heap[g]? = some z5) : W.frozen? ⟨g, 1, none⟩ = false := blk_frozen A 1
theorem zc2 {W : World} {g : Nat} (A : W.heap[g]? = some z5) : W.cell? ⟨g, 2, none⟩ = some (.complex .f64 0 0) := (blk_cell A 2).trans rfl
theorem zf2 {W : World} {g : Nat} (A : W.heap[g]? = some z5) : W.frozen? ⟨g, 2, none⟩ = false := blk_frozen A 2
theorem zc3 {W : World} {g : Nat} (A : W.heap[g]? = some z5) : W.cell? ⟨g, 3, none⟩ = some (.complex .f64 0 0) := (blk_cell A 3).trans rfl
theorem zf3 {W : World} {g : Nat} (A : W.heap[g]? = some z5) : W.frozen? ⟨g, 3, none⟩ = false := blk_frozen A 3
theorem zc4 {W : World} {g : Nat} (A : W.heap[g]? = some z5) : W.cell? ⟨g, 4, none⟩ = some (.complex .f64 0 0) := (blk_cell A 4).trans rfl
theorem zf4 {W : World} {g : Nat} (A : W.heap[g]? = some z5) : W.frozen? ⟨g, 4, none⟩ = false := blk_frozen A 4
theorem O.set {n0 n1 k0 k1 s0 s1 p0 p1 p2 p3 : Int} {w W : World} {g : Nat} (J : O n0 n1 k0 k1 s0 s1 p0 p1 p2 p3 w W) (hg : w.heap.size + 5 ≤ g) (i : Nat) (v : Value) : O n0 n1 k0 k1 s0 s1 p0 p1 p2 p3 w (W.setCell ⟨g, i, none⟩ v) :=
  ⟨(Below.heap_setCell _ _ _ _ (by show _ ≠ g; omega)).trans J.b0, (Below.heap_setCell _ _ _ _ (by show _ ≠ g; omega)).trans J.b1, (Below.heap_setCell _ _ _ _ (by show _ ≠ g; omega)).trans J.b2, (Below.heap_setCell _ _ _ _ (by show _ ≠ g; omega)).trans J.b3, (Below.heap_setCell _ _ _ _ (by show _ ≠ g; omega)).trans J.b4, below_set J.bel (by omega)⟩
set_option maxHeartbeats 4000000 in
theorem of_yes (n0 n1 k0 k1 s0 s1 p0 p1 p2 p3 : Int) (w : World) (t00 : decide (1 ≤ n0 ∧ n0 ≤ 64) = true) (t01 : decide (1 ≤ k0 ∧ k0 ≤ 8) = true) (t02 : decide (1 ≤ s0 ∧ s0 ≤ 8) = true) (t03 : decide (0 ≤ p0 ∧ p0 ≤ (k0 - 1)) = true) (t04 : decide (0 ≤ p2 ∧ p2 ≤ (k0 - 1)) = true) (t10 : decide (1 ≤ n1 ∧ n1 ≤ 64) = true) (t11 : decide (1 ≤ k1 ∧ k1 ≤ 8) = true) (t12 : decide (1 ≤ s1 ∧ s1 ≤ 8) = true) (t13 : decide (0 ≤ p1 ∧ p1 ≤ (k1 - 1)) = true) (t14 : decide (0 ≤ p3 ∧ p3 ≤ (k1 - 1)) = true) (r0 : decide (0 ≤ (n0 + p0 + p2) - k0) = true) (r1 : decide (0 ≤ (n1 + p1 + p3) - k1) = true) : Calls Try.prog 29 #[.agg #[.int .i64 n0, .int .i64 n1], .agg #[.int .i64 k0, .int .i64 k1], .agg #[.int .i64 s0, .int .i64 s1], .agg #[.int .i64 p0, .int .i64 p1, .int .i64 p2, .int .i64 p3]] w (fun e w' => e = .returned (.tuple #[frm n0 n1 k0 k1 s0 s1 p0 p1 (n0 + p0 + p2) (n1 + p1 + p3), .bool true]) ∧ Below w.heap.size w w') := by
  have B := (show (1 ≤ n0 ∧ n0 ≤ 64) ∧ (1 ≤ k0 ∧ k0 ≤ 8) ∧ (1 ≤ s0 ∧ s0 ≤ 8) ∧ (0 ≤ p0 ∧ p0 ≤ k0 - 1) ∧ (0 ≤ p2 ∧ p2 ≤ k0 - 1) ∧ (1 ≤ n1 ∧ n1 ≤ 64) ∧ (1 ≤ k1 ∧ k1 ≤ 8) ∧ (1 ≤ s1 ∧ s1 ≤ 8) ∧ (0 ≤ p1 ∧ p1 ≤ k1 - 1) ∧ (0 ≤ p3 ∧ p3 ≤ k1 - 1) from ⟨of_decide_eq_true t00, of_decide_eq_true t01, of_decide_eq_true t02, of_decide_eq_true t03, of_decide_eq_true t04, of_decide_eq_true t10, of_decide_eq_true t11, of_decide_eq_true t12, of_decide_eq_true t13, of_decide_eq_true t14⟩)
  have C1 := cadd n0 n1 p0 p1 ⟨by omega, by omega⟩ ⟨by omega, by omega⟩ ⟨by omega, by omega⟩ ⟨by omega, by omega⟩ ⟨by omega, by omega⟩ ⟨by omega, by omega⟩
  have C2 := cadd (n0 + p0) (n1 + p1) p2 p3 ⟨by omega, by omega⟩ ⟨by omega, by omega⟩ ⟨by omega, by omega⟩ ⟨by omega, by omega⟩ ⟨by omega, by omega⟩ ⟨by omega, by omega⟩
  have C3 := Lib.hid (csub (n0 + p0 + p2) (n1 + p1 + p3) k0 k1 ⟨by omega, by omega⟩ ⟨by omega, by omega⟩ ⟨by omega, by omega⟩ ⟨by omega, by omega⟩ ⟨by omega, by omega⟩ ⟨by omega, by omega⟩ (by omega) (by omega))
  have C4 := Lib.hid (fgeB ((n0 + p0 + p2) - k0) ⟨by omega, by omega⟩ true r0)
  have C5 := Lib.hid (fgeB ((n1 + p1 + p3) - k1) ⟨by omega, by omega⟩ true r1)
  have C1 := Lib.hid C1
  have C2 := Lib.hid C2
  clear B r0 r1
  have J := Lib.hid (O.start n0 n1 k0 k1 s0 s1 p0 p1 p2 p3 w)
  have y0 : IntKind.i64.wrap (k0 - 1) = k0 - 1 := IntWalk.i64_in _ (by have := of_decide_eq_true t01; omega)
  have y1 : IntKind.i64.wrap (k1 - 1) = k1 - 1 := IntWalk.i64_in _ (by have := of_decide_eq_true t11; omega)
  go_enter Try.func29, Try.ntmps29
  go_wp2
  generalize ((((w.alloc (box2 n0 n1)).alloc (box2 k0 k1)).alloc (box2 s0 s1)).alloc (box4 p0 p1 p2 p3)).alloc z5 = u0 at *
  have c00 := J.out.c00
  have c01 := J.out.c01
  have c10 := J.out.c10
  have c11 := J.out.c11
  have c20 := J.out.c20
  have c21 := J.out.c21
  have c30 := J.out.c30
  have c31 := J.out.c31
  have c32 := J.out.c32
  have c33 := J.out.c33
  have c40 := J.out.c40
  have c41 := J.out.c41
  have c42 := J.out.c42
  have c43 := J.out.c43
  have c44 := J.out.c44
  have f40 := J.out.f40
  have f41 := J.out.f41
  have f42 := J.out.f42
  have f43 := J.out.f43
  have f44 := J.out.f44
  refine wp_loop_rounds 3 ?_
  rw [rounds_succ]
  go_wp2_with (first | (go_at_call_of 35 (Value.int .i64 n0); refine (good_is n0 1 64 true t00 _).mono ?_; rintro e w' ⟨rfl, rfl⟩) | (go_at_call_of 35 (Value.int .i64 k0); refine (good_is k0 1 8 true t01 _).mono ?_; rintro e w' ⟨rfl, rfl⟩) | (go_at_call_of 35 (Value.int .i64 s0); refine (good_is s0 1 8 true t02 _).mono ?_; rintro e w' ⟨rfl, rfl⟩))
  go_quiet (first | (go_at_call_of 35 (Value.int .i64 p0); exact Calls.quiet_of_same (good_q p0 0 (k0 - 1) true t03 _ _)) | (go_at_call_of 35 (Value.int .i64 p2); exact Calls.quiet_of_same (good_q p2 0 (k0 - 1) true t04 _ _)))
  have J2 := Lib.hid (J.out.drewN nq)
  clear J c00 c01 c10 c11 c20 c21 c30 c31 c32 c33 c40 c41 c42 c43 c44 f40 f41 f42 f43 f44
  have J := J2
  clear J2
  generalize u0.drewN nq = u1 at *
  have c00 := J.out.c00
  have c01 := J.out.c01
  have c10 := J.out.c10
  have c11 := J.out.c11
  have c20 := J.out.c20
  have c21 := J.out.c21
  have c30 := J.out.c30
  have c31 := J.out.c31
  have c32 := J.out.c32
  have c33 := J.out.c33
  have c40 := J.out.c40
  have c41 := J.out.c41
  have c42 := J.out.c42
  have c43 := J.out.c43
  have c44 := J.out.c44
  have f40 := J.out.f40
  have f41 := J.out.f41
  have f42 := J.out.f42
  have f43 := J.out.f43
  have f44 := J.out.f44
  go_wp2
  rw [rounds_succ]
  go_wp2_with (first | (go_at_call_of 35 (Value.int .i64 n1); refine (good_is n1 1 64 true t10 _).mono ?_; rintro e w' ⟨rfl, rfl⟩) | (go_at_call_of 35 (Value.int .i64 k1); refine (good_is k1 1 8 true t11 _).mono ?_; rintro e w' ⟨rfl, rfl⟩) | (go_at_call_of 35 (Value.int .i64 s1); refine (good_is s1 1 8 true t12 _).mono ?_; rintro e w' ⟨rfl, rfl⟩))
  go_quiet (first | (go_at_call_of 35 (Value.int .i64 p1); exact Calls.quiet_of_same (good_q p1 0 (k1 - 1) true t13 _ _)) | (go_at_call_of 35 (Value.int .i64 p3); exact Calls.quiet_of_same (good_q p3 0 (k1 - 1) true t14 _ _)))
  have J2 := Lib.hid (J.out.drewN nq)
  clear J c00 c01 c10 c11 c20 c21 c30 c31 c32 c33 c40 c41 c42 c43 c44 f40 f41 f42 f43 f44
  have J := J2
  clear J2
  generalize u1.drewN nq = u2 at *
  have c00 := J.out.c00
  have c01 := J.out.c01
  have c10 := J.out.c10
  have c11 := J.out.c11
  have c20 := J.out.c20
  have c21 := J.out.c21
  have c30 := J.out.c30
  have c31 := J.out.c31
  have c32 := J.out.c32
  have c33 := J.out.c33
  have c40 := J.out.c40
  have c41 := J.out.c41
  have c42 := J.out.c42
  have c43 := J.out.c43
  have c44 := J.out.c44
  have f40 := J.out.f40
  have f41 := J.out.f41
  have f42 := J.out.f42
  have f43 := J.out.f43
  have f44 := J.out.f44
  go_wp2
  rw [rounds_succ]
  go_wp2_with (fail)
  have J0 := J.out
  clear J
  have J := J0
  clear J0 c00 c01 c10 c11 c20 c21 c30 c31 c32 c33 c40 c41 c42 c43 c44 f40 f41 f42 f43 f44
  clear t00 t01 t02 t03 t04 t10 t11 t12 t13 t14 y0 y1
  replace C1 := C1.out
  replace C2 := C2.out
  refine wp_drawn (R := fun W W' => Below W.heap.size W W') 14 [.val (.agg #[.int .i64 n0, .int .i64 n1]), .val (pl n0 n1), .val (.agg #[.int .i64 k0, .int .i64 k1]), .val (pl k0 k1), .val (.agg #[.int .i64 s0, .int .i64 s1]), .val (pl s0 s1), .val (.pointer (some ⟨w.heap.size + 1 + 1 + 1, 0, none⟩)), .val (.int .i64 p0), .val (.pointer (some ⟨w.heap.size + 1 + 1 + 1, 1, none⟩)), .val (.int .i64 p1), .val (.agg #[.int .i64 p0, .int .i64 p1]), .val (pl p0 p1), .val (.agg #[pl n0 n1, pl k0 k1, pl s0 s1, pl p0 p1, .complex .f64 0 0]), newSpec z5 (w.heap.size + 5)] (fun W => O n0 n1 k0 k1 s0 s1 p0 p1 p2 p3 w W) rfl (by kernel_rfl) J.drew ?_ ?_
  · intro vs W hG b hb
    have e4 : b.eval (.tmp 4) = .pointer (some ⟨w.heap.size, 0, none⟩) := (congrArg (fun x => Act.eval x (.tmp 4)) hb).trans ((fill_out _ 0 _ (by kernel_rfl)).trans rfl)
    have e5 : b.eval (.tmp 5) = .pointer (some ⟨w.heap.size + 1, 0, none⟩) := (congrArg (fun x => Act.eval x (.tmp 5)) hb).trans ((fill_out _ 0 _ (by kernel_rfl)).trans rfl)
    have e6 : b.eval (.tmp 6) = .pointer (some ⟨w.heap.size + 1 + 1, 0, none⟩) := (congrArg (fun x => Act.eval x (.tmp 6)) hb).trans ((fill_out _ 0 _ (by kernel_rfl)).trans rfl)
    have e7 : b.eval (.tmp 7) = .pointer (some ⟨w.heap.size + 1 + 1 + 1, 0, none⟩) := (congrArg (fun x => Act.eval x (.tmp 7)) hb).trans ((fill_out _ 0 _ (by kernel_rfl)).trans rfl)
    have i59 : b.eval (.tmp 59) = vs 0 := (congrArg (fun x => Act.eval x (.tmp 59)) hb).trans ((fill_in _ 0 0 _ _ 59 (by kernel_rfl) rfl rfl (by simp)).trans (congrArg vs (Nat.zero_add _)))
    have i60 : b.eval (.tmp 60) = vs 1 := (congrArg (fun x => Act.eval x (.tmp 60)) hb).trans ((fill_in _ 0 1 _ _ 60 (by kernel_rfl) rfl rfl (by simp)).trans (congrArg vs (Nat.zero_add _)))
    have i61 : b.eval (.tmp 61) = vs 2 := (congrArg (fun x => Act.eval x (.tmp 61)) hb).trans ((fill_in _ 0 2 _ _ 61 (by kernel_rfl) rfl rfl (by simp)).trans (congrArg vs (Nat.zero_add _)))
    have i62 : b.eval (.tmp 62) = vs 3 := (congrArg (fun x => Act.eval x (.tmp 62)) hb).trans ((fill_in _ 0 3 _ _ 62 (by kernel_rfl) rfl rfl (by simp)).trans (congrArg vs (Nat.zero_add _)))
    have i63 : b.eval (.tmp 63) = vs 4 := (congrArg (fun x => Act.eval x (.tmp 63)) hb).trans ((fill_in _ 0 4 _ _ 63 (by kernel_rfl) rfl rfl (by simp)).trans (congrArg vs (Nat.zero_add _)))
    have i64 : b.eval (.tmp 64) = vs 5 := (congrArg (fun x => Act.eval x (.tmp 64)) hb).trans ((fill_in _ 0 5 _ _ 64 (by kernel_rfl) rfl rfl (by simp)).trans (congrArg vs (Nat.zero_add _)))
    have i65 : b.eval (.tmp 65) = vs 6 := (congrArg (fun x => Act.eval x (.tmp 65)) hb).trans ((fill_in _ 0 6 _ _ 65 (by kernel_rfl) rfl rfl (by simp)).trans (congrArg vs (Nat.zero_add _)))
    have i66 : b.eval (.tmp 66) = vs 7 := (congrArg (fun x => Act.eval x (.tmp 66)) hb).trans ((fill_in _ 0 7 _ _ 66 (by kernel_rfl) rfl rfl (by simp)).trans (congrArg vs (Nat.zero_add _)))
    have i67 : b.eval (.tmp 67) = vs 8 := (congrArg (fun x => Act.eval x (.tmp 67)) hb).trans ((fill_in _ 0 8 _ _ 67 (by kernel_rfl) rfl rfl (by simp)).trans (congrArg vs (Nat.zero_add _)))
    have i68 : b.eval (.tmp 68) = vs 9 := (congrArg (fun x => Act.eval x (.tmp 68)) hb).trans ((fill_in _ 0 9 _ _ 68 (by kernel_rfl) rfl rfl (by simp)).trans (congrArg vs (Nat.zero_add _)))
    have i69 : b.eval (.tmp 69) = vs 10 := (congrArg (fun x => Act.eval x (.tmp 69)) hb).trans ((fill_in _ 0 10 _ _ 69 (by kernel_rfl) rfl rfl (by simp)).trans (congrArg vs (Nat.zero_add _)))
    have i70 : b.eval (.tmp 70) = vs 11 := (congrArg (fun x => Act.eval x (.tmp 70)) hb).trans ((fill_in _ 0 11 _ _ 70 (by kernel_rfl) rfl rfl (by simp)).trans (congrArg vs (Nat.zero_add _)))
    clear hb
    refine And.intro ?_ (And.intro ?_ (And.intro ?_ (And.intro ?_ (And.intro ?_ (And.intro ?_ (And.intro ?_ (And.intro ?_ (And.intro ?_ (And.intro ?_ (And.intro ?_ (And.intro ?_ (And.intro ?_ (And.intro ?_ (trivial))))))))))))))
    · intro hp K hK
      refine g_no rfl ?_
      exact st_load rfl (e4) (ld2 hG.b0) (hK _ _ rfl hG (Below.refl _ _))
    · intro hp K hK
      refine g_no rfl ?_
      have e59 : b.eval (.tmp 59) = .agg #[.int .i64 n0, .int .i64 n1] := i59.trans (hp 0 (by kernel_rfl))
      refine st_call rfl (by first | (simp only [List.map_toArray, List.map_cons, List.map_nil, eval_const, e59]; done) | (simp only [List.map_toArray, List.map_cons, List.map_nil, eval_const, e59]; rfl)) (by kernel_rfl) ?_
      refine (plane_is n0 n1 _).mono ?_
      rintro e w' ⟨rfl, hb'⟩
      exact ⟨_, rfl, hK _ _ rfl (hG.step hb') hb'⟩
    · intro hp K hK
      refine g_no rfl ?_
      exact st_load rfl (e5) (ld2 hG.b1) (hK _ _ rfl hG (Below.refl _ _))
    · intro hp K hK
      refine g_no rfl ?_
      have e61 : b.eval (.tmp 61) = .agg #[.int .i64 k0, .int .i64 k1] := i61.trans (hp 2 (by kernel_rfl))
      refine st_call rfl (by first | (simp only [List.map_toArray, List.map_cons, List.map_nil, eval_const, e61]; done) | (simp only [List.map_toArray, List.map_cons, List.map_nil, eval_const, e61]; rfl)) (by kernel_rfl) ?_
      refine (plane_is k0 k1 _).mono ?_
      rintro e w' ⟨rfl, hb'⟩
      exact ⟨_, rfl, hK _ _ rfl (hG.step hb') hb'⟩
    · intro hp K hK
      refine g_no rfl ?_
      exact st_load rfl (e6) (ld2 hG.b2) (hK _ _ rfl hG (Below.refl _ _))
    · intro hp K hK
      refine g_no rfl ?_
      have e63 : b.eval (.tmp 63) = .agg #[.int .i64 s0, .int .i64 s1] := i63.trans (hp 4 (by kernel_rfl))
      refine st_call rfl (by first | (simp only [List.map_toArray, List.map_cons, List.map_nil, eval_const, e63]; done) | (simp only [List.map_toArray, List.map_cons, List.map_nil, eval_const, e63]; rfl)) (by kernel_rfl) ?_
      refine (plane_is s0 s1 _).mono ?_
      rintro e w' ⟨rfl, hb'⟩
      exact ⟨_, rfl, hK _ _ rfl (hG.step hb') hb'⟩
    · intro hp K hK
      refine g_no rfl ?_
      exact st_index rfl (e7) (eval_const _) (by kernel_rfl) (hK _ _ rfl hG (Below.refl _ _))
    · intro hp K hK
      refine g_no rfl ?_
      have e65 : b.eval (.tmp 65) = .pointer (some ⟨w.heap.size + 1 + 1 + 1, 0, none⟩) := i65.trans (hp 6 (by kernel_rfl))
      exact st_load rfl (e65) (ld1 hG.c30) (hK _ _ rfl hG (Below.refl _ _))
    · intro hp K hK
      refine g_no rfl ?_
      exact st_index rfl (e7) (eval_const _) (by kernel_rfl) (hK _ _ rfl hG (Below.refl _ _))
    · intro hp K hK
      refine g_no rfl ?_
      have e67 : b.eval (.tmp 67) = .pointer (some ⟨w.heap.size + 1 + 1 + 1, 1, none⟩) := i67.trans (hp 8 (by kernel_rfl))
      exact st_load rfl (e67) (ld1 hG.c31) (hK _ _ rfl hG (Below.refl _ _))
    · intro hp K hK
      refine g_no rfl ?_
      have e66 : b.eval (.tmp 66) = .int .i64 p0 := i66.trans (hp 7 (by kernel_rfl))
      have e68 : b.eval (.tmp 68) = .int .i64 p1 := i68.trans (hp 9 (by kernel_rfl))
      exact st_build rfl (by first | (simp only [List.map_toArray, List.map_cons, List.map_nil, eval_const, e66, e68]; done) | (simp only [List.map_toArray, List.map_cons, List.map_nil, eval_const, e66, e68]; rfl)) (by kernel_rfl) (hK _ _ rfl hG (Below.refl _ _))
    · intro hp K hK
      refine g_no rfl ?_
      have e69 : b.eval (.tmp 69) = .agg #[.int .i64 p0, .int .i64 p1] := i69.trans (hp 10 (by kernel_rfl))
      refine st_call rfl (by first | (simp only [List.map_toArray, List.map_cons, List.map_nil, eval_const, e69]; done) | (simp only [List.map_toArray, List.map_cons, List.map_nil, eval_const, e69]; rfl)) (by kernel_rfl) ?_
      refine (plane_is p0 p1 _).mono ?_
      rintro e w' ⟨rfl, hb'⟩
      exact ⟨_, rfl, hK _ _ rfl (hG.step hb') hb'⟩
    · intro hp K hK
      refine g_no rfl ?_
      have e60 : b.eval (.tmp 60) = pl n0 n1 := i60.trans (hp 1 (by kernel_rfl))
      have e62 : b.eval (.tmp 62) = pl k0 k1 := i62.trans (hp 3 (by kernel_rfl))
      have e64 : b.eval (.tmp 64) = pl s0 s1 := i64.trans (hp 5 (by kernel_rfl))
      have e70 : b.eval (.tmp 70) = pl p0 p1 := i70.trans (hp 11 (by kernel_rfl))
      exact st_build rfl (by first | (simp only [List.map_toArray, List.map_cons, List.map_nil, eval_const, e60, e62, e64, e70]; done) | (simp only [List.map_toArray, List.map_cons, List.map_nil, eval_const, e60, e62, e64, e70]; rfl)) (by kernel_rfl) (hK _ _ rfl hG (Below.refl _ _))
    · intro hp K hK
      refine g_no rfl ?_
      exact st_alloc rfl (new5 W) (hK _ _ ⟨_, rfl, blk_new _ _, hG.size⟩ (hG.alloc _) ((Below.refl _ _).alloc (Nat.le_refl _) _))
  intro vs W hG hp b hb
  have q0 : vs 0 = .agg #[.int .i64 n0, .int .i64 n1] := hp 0 (by decide)
  have q1 : vs 1 = pl n0 n1 := hp 1 (by decide)
  have q2 : vs 2 = .agg #[.int .i64 k0, .int .i64 k1] := hp 2 (by decide)
  have q3 : vs 3 = pl k0 k1 := hp 3 (by decide)
  have q4 : vs 4 = .agg #[.int .i64 s0, .int .i64 s1] := hp 4 (by decide)
  have q5 : vs 5 = pl s0 s1 := hp 5 (by decide)
  have q6 : vs 6 = .pointer (some ⟨w.heap.size + 1 + 1 + 1, 0, none⟩) := hp 6 (by decide)
  have q7 : vs 7 = .int .i64 p0 := hp 7 (by decide)
  have q8 : vs 8 = .pointer (some ⟨w.heap.size + 1 + 1 + 1, 1, none⟩) := hp 8 (by decide)
  have q9 : vs 9 = .int .i64 p1 := hp 9 (by decide)
  have q10 : vs 10 = .agg #[.int .i64 p0, .int .i64 p1] := hp 10 (by decide)
  have q11 : vs 11 = pl p0 p1 := hp 11 (by decide)
  have q12 : vs 12 = .agg #[pl n0 n1, pl k0 k1, pl s0 s1, pl p0 p1, .complex .f64 0 0] := hp 12 (by decide)
  have q13 : ∃ g, (vs 13) = .pointer (some ⟨g, 0, none⟩) ∧ W.heap[g]? = some z5 ∧ w.heap.size + 5 ≤ g := hp 13 (by decide)
  clear hp
  simp only [fill, Act.put, List.append_eq, List.cons_append, List.nil_append, List.take_succ_cons, List.take_zero, List.setIfInBounds_toArray, List.set_cons_succ, List.set_cons_zero, Nat.reduceAdd, Nat.zero_add, q0, q1, q2, q3, q4, q5, q6, q7, q8, q9, q10, q11, q12] at hb
  subst hb
  simp only [List.append_eq, List.cons_append, List.nil_append, List.drop_succ_cons, List.drop_zero]
  clear q0 q1 q2 q3 q4 q5 q6 q7 q8 q9 q10 q11 q12
  obtain ⟨g, hv, A, hg⟩ := q13
  rw [hv]
  clear hv J
  have z0 := zc0 A
  have y0 := zf0 A
  have z1 := zc1 A
  have y1 := zf1 A
  have z2 := zc2 A
  have y2 := zf2 A
  have z3 := zc3 A
  have y3 := zf3 A
  have z4 := zc4 A
  have y4 := zf4 A
  go_wp2
  clear z0 y0 z1 y1 z2 y2 z3 y3 z4 y4
  have hJ := ((((hG.set hg 0 (pl n0 n1)).set hg 1 (pl k0 k1)).set hg 2 (pl s0 s1)).set hg 3 (pl p0 p1)).set hg 4 (.complex .f64 0 0)
  have hA := blk_put (blk_put (blk_put (blk_put (blk_put A 0 (pl n0 n1) rfl) 1 (pl k0 k1) rfl) 2 (pl s0 s1) rfl) 3 (pl p0 p1) rfl) 4 (.complex .f64 0 0) rfl
  have hA' : _ = some (fr5 n0 n1 k0 k1 s0 s1 p0 p1 (.complex .f64 0 0)) := hA
  clear hA
  generalize ((((W.setCell ⟨g, 0, none⟩ (pl n0 n1)).setCell ⟨g, 1, none⟩ (pl k0 k1)).setCell ⟨g, 2, none⟩ (pl s0 s1)).setCell ⟨g, 3, none⟩ (pl p0 p1)).setCell ⟨g, 4, none⟩ (.complex .f64 0 0) = V at *
  clear hG A vs
  refine wp_drawn (R := fun W W' => Below W.heap.size W W') 13 [.val (.pointer (some ⟨g, 0, none⟩)), .val (pl n0 n1), .val (.pointer (some ⟨g, 3, none⟩)), .val (pl p0 p1), .val (pl (n0 + p0) (n1 + p1)), .val (.pointer (some ⟨w.heap.size + 1 + 1 + 1, 2, none⟩)), .val (.int .i64 p2), .val (.pointer (some ⟨w.heap.size + 1 + 1 + 1, 3, none⟩)), .val (.int .i64 p3), .val (.agg #[.int .i64 p2, .int .i64 p3]), .val (pl p2 p3), .val (pl (n0 + p0 + p2) (n1 + p1 + p3)), .val (.pointer (some ⟨g, 4, none⟩))] (fun W => O n0 n1 k0 k1 s0 s1 p0 p1 p2 p3 w W ∧ W.heap[g]? = some (fr5 n0 n1 k0 k1 s0 s1 p0 p1 (.complex .f64 0 0))) rfl (by kernel_rfl) ⟨hJ.drew, hA'⟩ ?_ ?_
  · intro vs W hG b hb
    have e7 : b.eval (.tmp 7) = .pointer (some ⟨w.heap.size + 1 + 1 + 1, 0, none⟩) := (congrArg (fun x => Act.eval x (.tmp 7)) hb).trans ((fill_out _ 0 _ (by kernel_rfl)).trans rfl)
    have e11 : b.eval (.tmp 11) = .pointer (some ⟨g, 0, none⟩) := (congrArg (fun x => Act.eval x (.tmp 11)) hb).trans ((fill_out _ 0 _ (by kernel_rfl)).trans rfl)
    have i72 : b.eval (.tmp 72) = vs 0 := (congrArg (fun x => Act.eval x (.tmp 72)) hb).trans ((fill_in _ 0 0 _ _ 72 (by kernel_rfl) rfl rfl (by simp)).trans (congrArg vs (Nat.zero_add _)))
    have i73 : b.eval (.tmp 73) = vs 1 := (congrArg (fun x => Act.eval x (.tmp 73)) hb).trans ((fill_in _ 0 1 _ _ 73 (by kernel_rfl) rfl rfl (by simp)).trans (congrArg vs (Nat.zero_add _)))
    have i74 : b.eval (.tmp 74) = vs 2 := (congrArg (fun x => Act.eval x (.tmp 74)) hb).trans ((fill_in _ 0 2 _ _ 74 (by kernel_rfl) rfl rfl (by simp)).trans (congrArg vs (Nat.zero_add _)))
    have i75 : b.eval (.tmp 75) = vs 3 := (congrArg (fun x => Act.eval x (.tmp 75)) hb).trans ((fill_in _ 0 3 _ _ 75 (by kernel_rfl) rfl rfl (by simp)).trans (congrArg vs (Nat.zero_add _)))
    have i76 : b.eval (.tmp 76) = vs 4 := (congrArg (fun x => Act.eval x (.tmp 76)) hb).trans ((fill_in _ 0 4 _ _ 76 (by kernel_rfl) rfl rfl (by simp)).trans (congrArg vs (Nat.zero_add _)))
    have i77 : b.eval (.tmp 77) = vs 5 := (congrArg (fun x => Act.eval x (.tmp 77)) hb).trans ((fill_in _ 0 5 _ _ 77 (by kernel_rfl) rfl rfl (by simp)).trans (congrArg vs (Nat.zero_add _)))
    have i78 : b.eval (.tmp 78) = vs 6 := (congrArg (fun x => Act.eval x (.tmp 78)) hb).trans ((fill_in _ 0 6 _ _ 78 (by kernel_rfl) rfl rfl (by simp)).trans (congrArg vs (Nat.zero_add _)))
    have i79 : b.eval (.tmp 79) = vs 7 := (congrArg (fun x => Act.eval x (.tmp 79)) hb).trans ((fill_in _ 0 7 _ _ 79 (by kernel_rfl) rfl rfl (by simp)).trans (congrArg vs (Nat.zero_add _)))
    have i80 : b.eval (.tmp 80) = vs 8 := (congrArg (fun x => Act.eval x (.tmp 80)) hb).trans ((fill_in _ 0 8 _ _ 80 (by kernel_rfl) rfl rfl (by simp)).trans (congrArg vs (Nat.zero_add _)))
    have i81 : b.eval (.tmp 81) = vs 9 := (congrArg (fun x => Act.eval x (.tmp 81)) hb).trans ((fill_in _ 0 9 _ _ 81 (by kernel_rfl) rfl rfl (by simp)).trans (congrArg vs (Nat.zero_add _)))
    have i82 : b.eval (.tmp 82) = vs 10 := (congrArg (fun x => Act.eval x (.tmp 82)) hb).trans ((fill_in _ 0 10 _ _ 82 (by kernel_rfl) rfl rfl (by simp)).trans (congrArg vs (Nat.zero_add _)))
    clear hb
    refine And.intro ?_ (And.intro ?_ (And.intro ?_ (And.intro ?_ (And.intro ?_ (And.intro ?_ (And.intro ?_ (And.intro ?_ (And.intro ?_ (And.intro ?_ (And.intro ?_ (And.intro ?_ (And.intro ?_ (trivial)))))))))))))
    · intro hp K hK
      refine g_no rfl ?_
      exact st_field rfl (e11) (by kernel_rfl) (hK _ _ rfl hG (Below.refl _ _))
    · intro hp K hK
      refine g_no rfl ?_
      have e72 : b.eval (.tmp 72) = .pointer (some ⟨g, 0, none⟩) := i72.trans (hp 0 (by kernel_rfl))
      exact st_load rfl (e72) (ldp ((blk_cell hG.2 0).trans rfl)) (hK _ _ rfl hG (Below.refl _ _))
    · intro hp K hK
      refine g_no rfl ?_
      exact st_field rfl (e11) (by kernel_rfl) (hK _ _ rfl hG (Below.refl _ _))
    · intro hp K hK
      refine g_no rfl ?_
      have e74 : b.eval (.tmp 74) = .pointer (some ⟨g, 3, none⟩) := i74.trans (hp 2 (by kernel_rfl))
      exact st_load rfl (e74) (ldp ((blk_cell hG.2 3).trans rfl)) (hK _ _ rfl hG (Below.refl _ _))
    · intro hp K hK
      refine g_no rfl ?_
      have e73 : b.eval (.tmp 73) = pl n0 n1 := i73.trans (hp 1 (by kernel_rfl))
      have e75 : b.eval (.tmp 75) = pl p0 p1 := i75.trans (hp 3 (by kernel_rfl))
      exact st_bin rfl (e73) (e75) (bin_st rfl C1) (hK _ _ rfl hG (Below.refl _ _))
    · intro hp K hK
      refine g_no rfl ?_
      exact st_index rfl (e7) (eval_const _) (by kernel_rfl) (hK _ _ rfl hG (Below.refl _ _))
    · intro hp K hK
      refine g_no rfl ?_
      have e77 : b.eval (.tmp 77) = .pointer (some ⟨w.heap.size + 1 + 1 + 1, 2, none⟩) := i77.trans (hp 5 (by kernel_rfl))
      exact st_load rfl (e77) (ld1 hG.1.c32) (hK _ _ rfl hG (Below.refl _ _))
    · intro hp K hK
      refine g_no rfl ?_
      exact st_index rfl (e7) (eval_const _) (by kernel_rfl) (hK _ _ rfl hG (Below.refl _ _))
    · intro hp K hK
      refine g_no rfl ?_
      have e79 : b.eval (.tmp 79) = .pointer (some ⟨w.heap.size + 1 + 1 + 1, 3, none⟩) := i79.trans (hp 7 (by kernel_rfl))
      exact st_load rfl (e79) (ld1 hG.1.c33) (hK _ _ rfl hG (Below.refl _ _))
    · intro hp K hK
      refine g_no rfl ?_
      have e78 : b.eval (.tmp 78) = .int .i64 p2 := i78.trans (hp 6 (by kernel_rfl))
      have e80 : b.eval (.tmp 80) = .int .i64 p3 := i80.trans (hp 8 (by kernel_rfl))
      exact st_build rfl (by first | (simp only [List.map_toArray, List.map_cons, List.map_nil, eval_const, e78, e80]; done) | (simp only [List.map_toArray, List.map_cons, List.map_nil, eval_const, e78, e80]; rfl)) (by kernel_rfl) (hK _ _ rfl hG (Below.refl _ _))
    · intro hp K hK
      refine g_no rfl ?_
      have e81 : b.eval (.tmp 81) = .agg #[.int .i64 p2, .int .i64 p3] := i81.trans (hp 9 (by kernel_rfl))
      refine st_call rfl (by first | (simp only [List.map_toArray, List.map_cons, List.map_nil, eval_const, e81]; done) | (simp only [List.map_toArray, List.map_cons, List.map_nil, eval_const, e81]; rfl)) (by kernel_rfl) ?_
      refine (plane_is p2 p3 _).mono ?_
      rintro e w' ⟨rfl, hb'⟩
      exact ⟨_, rfl, hK _ _ rfl ⟨hG.1.step hb', blk_below hG.2 hb'⟩ hb'⟩
    · intro hp K hK
      refine g_no rfl ?_
      have e76 : b.eval (.tmp 76) = pl (n0 + p0) (n1 + p1) := i76.trans (hp 4 (by kernel_rfl))
      have e82 : b.eval (.tmp 82) = pl p2 p3 := i82.trans (hp 10 (by kernel_rfl))
      exact st_bin rfl (e76) (e82) (bin_st rfl C2) (hK _ _ rfl hG (Below.refl _ _))
    · intro hp K hK
      refine g_no rfl ?_
      exact st_field rfl (e11) (by kernel_rfl) (hK _ _ rfl hG (Below.refl _ _))
  intro vs W hG hp b hb
  have q0 : vs 0 = .pointer (some ⟨g, 0, none⟩) := hp 0 (by decide)
  have q1 : vs 1 = pl n0 n1 := hp 1 (by decide)
  have q2 : vs 2 = .pointer (some ⟨g, 3, none⟩) := hp 2 (by decide)
  have q3 : vs 3 = pl p0 p1 := hp 3 (by decide)
  have q4 : vs 4 = pl (n0 + p0) (n1 + p1) := hp 4 (by decide)
  have q5 : vs 5 = .pointer (some ⟨w.heap.size + 1 + 1 + 1, 2, none⟩) := hp 5 (by decide)
  have q6 : vs 6 = .int .i64 p2 := hp 6 (by decide)
  have q7 : vs 7 = .pointer (some ⟨w.heap.size + 1 + 1 + 1, 3, none⟩) := hp 7 (by decide)
  have q8 : vs 8 = .int .i64 p3 := hp 8 (by decide)
  have q9 : vs 9 = .agg #[.int .i64 p2, .int .i64 p3] := hp 9 (by decide)
  have q10 : vs 10 = pl p2 p3 := hp 10 (by decide)
  have q11 : vs 11 = pl (n0 + p0 + p2) (n1 + p1 + p3) := hp 11 (by decide)
  have q12 : vs 12 = .pointer (some ⟨g, 4, none⟩) := hp 12 (by decide)
  clear hp
  simp only [fill, Act.put, List.append_eq, List.cons_append, List.nil_append, List.take_succ_cons, List.take_zero, List.setIfInBounds_toArray, List.set_cons_succ, List.set_cons_zero, Nat.reduceAdd, Nat.zero_add, q0, q1, q2, q3, q4, q5, q6, q7, q8, q9, q10, q11, q12] at hb
  subst hb
  simp only [List.append_eq, List.cons_append, List.nil_append, List.drop_succ_cons, List.drop_zero]
  clear q0 q1 q2 q3 q4 q5 q6 q7 q8 q9 q10 q11 q12
  obtain ⟨hG, A⟩ := hG
  clear hJ hA' C1 C2
  have y4 := blk_frozen A 4
  have z4 : W.cell? ⟨g, 4, none⟩ = some (.complex .f64 0 0) := (blk_cell A 4).trans rfl
  have z0 : W.cell? ⟨g, 0, none⟩ = some (pl n0 n1) := (blk_cell A 0).trans rfl
  have z1 : W.cell? ⟨g, 1, none⟩ = some (pl k0 k1) := (blk_cell A 1).trans rfl
  have z2 : W.cell? ⟨g, 2, none⟩ = some (pl s0 s1) := (blk_cell A 2).trans rfl
  have z3 : W.cell? ⟨g, 3, none⟩ = some (pl p0 p1) := (blk_cell A 3).trans rfl
  have h40 := hG.c40
  have g40 := hG.f40
  have h41 := hG.c41
  have g41 := hG.f41
  have h42 := hG.c42
  have g42 := hG.f42
  have h43 := hG.c43
  have g43 := hG.f43
  have h44 := hG.c44
  have g44 := hG.f44
  have hne : g ≠ w.heap.size + 1 + 1 + 1 + 1 := by omega
  have hne' : w.heap.size + 1 + 1 + 1 + 1 ≠ g := by omega
  replace C3 := C3.out
  replace C4 := C4.out
  replace C5 := C5.out
  go_wp2
  have hZ := hG.set hg 4 (pl (n0 + p0 + p2) (n1 + p1 + p3))
  refine bodyPost_ret (results_ct rfl _ _ (w.heap.size + 1 + 1 + 1 + 1) 53 #[pl n0 n1, pl k0 k1, pl s0 s1, pl p0 p1, pl (n0 + p0 + p2) (n1 + p1 + p3)] (0, 0) _ rfl (blk_put (blk_put (blk_put (blk_put (blk_put hZ.b4 0 _ rfl) 1 _ rfl) 2 _ rfl) 3 _ rfl) 4 _ rfl) Try.underlying53 rfl (by kernel_rfl)) rfl ?_
  exact ⟨rfl, below_set (below_set (below_set (below_set (below_set hZ.bel (by omega)) (by omega)) (by omega)) (by omega)) (by omega)⟩
set_option maxHeartbeats 4000000 in
theorem of_no20 (n0 n1 k0 k1 s0 s1 p0 p1 p2 p3 : Int) (w : World) (t00 : decide (1 ≤ n0 ∧ n0 ≤ 64) = true) (t01 : decide (1 ≤ k0 ∧ k0 ≤ 8) = true) (t02 : decide (1 ≤ s0 ∧ s0 ≤ 8) = true) (t03 : decide (0 ≤ p0 ∧ p0 ≤ (k0 - 1)) = true) (t04 : decide (0 ≤ p2 ∧ p2 ≤ (k0 - 1)) = true) (t10 : decide (1 ≤ n1 ∧ n1 ≤ 64) = true) (t11 : decide (1 ≤ k1 ∧ k1 ≤ 8) = true) (t12 : decide (1 ≤ s1 ∧ s1 ≤ 8) = true) (t13 : decide (0 ≤ p1 ∧ p1 ≤ (k1 - 1)) = true) (t14 : decide (0 ≤ p3 ∧ p3 ≤ (k1 - 1)) = true) (r0 : decide (0 ≤ (n0 + p0 + p2) - k0) = false) : Calls Try.prog 29 #[.agg #[.int .i64 n0, .int .i64 n1], .agg #[.int .i64 k0, .int .i64 k1], .agg #[.int .i64 s0, .int .i64 s1], .agg #[.int .i64 p0, .int .i64 p1, .int .i64 p2, .int .i64 p3]] w (NoFrame w) := by
  have B := (show (1 ≤ n0 ∧ n0 ≤ 64) ∧ (1 ≤ k0 ∧ k0 ≤ 8) ∧ (1 ≤ s0 ∧ s0 ≤ 8) ∧ (0 ≤ p0 ∧ p0 ≤ k0 - 1) ∧ (0 ≤ p2 ∧ p2 ≤ k0 - 1) ∧ (1 ≤ n1 ∧ n1 ≤ 64) ∧ (1 ≤ k1 ∧ k1 ≤ 8) ∧ (1 ≤ s1 ∧ s1 ≤ 8) ∧ (0 ≤ p1 ∧ p1 ≤ k1 - 1) ∧ (0 ≤ p3 ∧ p3 ≤ k1 - 1) from ⟨of_decide_eq_true t00, of_decide_eq_true t01, of_decide_eq_true t02, of_decide_eq_true t03, of_decide_eq_true t04, of_decide_eq_true t10, of_decide_eq_true t11, of_decide_eq_true t12, of_decide_eq_true t13, of_decide_eq_true t14⟩)
  have C1 := cadd n0 n1 p0 p1 ⟨by omega, by omega⟩ ⟨by omega, by omega⟩ ⟨by omega, by omega⟩ ⟨by omega, by omega⟩ ⟨by omega, by omega⟩ ⟨by omega, by omega⟩
  have C2 := cadd (n0 + p0) (n1 + p1) p2 p3 ⟨by omega, by omega⟩ ⟨by omega, by omega⟩ ⟨by omega, by omega⟩ ⟨by omega, by omega⟩ ⟨by omega, by omega⟩ ⟨by omega, by omega⟩
  have C3 := Lib.hid (csub (n0 + p0 + p2) (n1 + p1 + p3) k0 k1 ⟨by omega, by omega⟩ ⟨by omega, by omega⟩ ⟨by omega, by omega⟩ ⟨by omega, by omega⟩ ⟨by omega, by omega⟩ ⟨by omega, by omega⟩ (by omega) (by omega))
  have C4 := Lib.hid (fgeB ((n0 + p0 + p2) - k0) ⟨by omega, by omega⟩ false r0)
  have C1 := Lib.hid C1
  have C2 := Lib.hid C2
  clear B r0
  have J := Lib.hid (O.start n0 n1 k0 k1 s0 s1 p0 p1 p2 p3 w)
  have y0 : IntKind.i64.wrap (k0 - 1) = k0 - 1 := IntWalk.i64_in _ (by have := of_decide_eq_true t01; omega)
  have y1 : IntKind.i64.wrap (k1 - 1) = k1 - 1 := IntWalk.i64_in _ (by have := of_decide_eq_true t11; omega)
  go_enter Try.func29, Try.ntmps29
  go_wp2
  generalize ((((w.alloc (box2 n0 n1)).alloc (box2 k0 k1)).alloc (box2 s0 s1)).alloc (box4 p0 p1 p2 p3)).alloc z5 = u0 at *
  have c00 := J.out.c00
  have c01 := J.out.c01
  have c10 := J.out.c10
  have c11 := J.out.c11
  have c20 := J.out.c20
  have c21 := J.out.c21
  have c30 := J.out.c30
  have c31 := J.out.c31
  have c32 := J.out.c32
  have c33 := J.out.c33
  have c40 := J.out.c40
  have c41 := J.out.c41
  have c42 := J.out.c42
  have c43 := J.out.c43
  have c44 := J.out.c44
  have f40 := J.out.f40
  have f41 := J.out.f41
  have f42 := J.out.f42
  have f43 := J.out.f43
  have f44 := J.out.f44
  refine wp_loop_rounds 3 ?_
  rw [rounds_succ]
  go_wp2_with (first | (go_at_call_of 35 (Value.int .i64 n0); refine (good_is n0 1 64 true t00 _).mono ?_; rintro e w' ⟨rfl, rfl⟩) | (go_at_call_of 35 (Value.int .i64 k0); refine (good_is k0 1 8 true t01 _).mono ?_; rintro e w' ⟨rfl, rfl⟩) | (go_at_call_of 35 (Value.int .i64 s0); refine (good_is s0 1 8 true t02 _).mono ?_; rintro e w' ⟨rfl, rfl⟩))
  go_quiet (first | (go_at_call_of 35 (Value.int .i64 p0); exact Calls.quiet_of_same (good_q p0 0 (k0 - 1) true t03 _ _)) | (go_at_call_of 35 (Value.int .i64 p2); exact Calls.quiet_of_same (good_q p2 0 (k0 - 1) true t04 _ _)))
  have J2 := Lib.hid (J.out.drewN nq)
  clear J c00 c01 c10 c11 c20 c21 c30 c31 c32 c33 c40 c41 c42 c43 c44 f40 f41 f42 f43 f44
  have J := J2
  clear J2
  generalize u0.drewN nq = u1 at *
  have c00 := J.out.c00
  have c01 := J.out.c01
  have c10 := J.out.c10
  have c11 := J.out.c11
  have c20 := J.out.c20
  have c21 := J.out.c21
  have c30 := J.out.c30
  have c31 := J.out.c31
  have c32 := J.out.c32
  have c33 := J.out.c33
  have c40 := J.out.c40
  have c41 := J.out.c41
  have c42 := J.out.c42
  have c43 := J.out.c43
  have c44 := J.out.c44
  have f40 := J.out.f40
  have f41 := J.out.f41
  have f42 := J.out.f42
  have f43 := J.out.f43
  have f44 := J.out.f44
  go_wp2
  rw [rounds_succ]
  go_wp2_with (first | (go_at_call_of 35 (Value.int .i64 n1); refine (good_is n1 1 64 true t10 _).mono ?_; rintro e w' ⟨rfl, rfl⟩) | (go_at_call_of 35 (Value.int .i64 k1); refine (good_is k1 1 8 true t11 _).mono ?_; rintro e w' ⟨rfl, rfl⟩) | (go_at_call_of 35 (Value.int .i64 s1); refine (good_is s1 1 8 true t12 _).mono ?_; rintro e w' ⟨rfl, rfl⟩))
  go_quiet (first | (go_at_call_of 35 (Value.int .i64 p1); exact Calls.quiet_of_same (good_q p1 0 (k1 - 1) true t13 _ _)) | (go_at_call_of 35 (Value.int .i64 p3); exact Calls.quiet_of_same (good_q p3 0 (k1 - 1) true t14 _ _)))
  have J2 := Lib.hid (J.out.drewN nq)
  clear J c00 c01 c10 c11 c20 c21 c30 c31 c32 c33 c40 c41 c42 c43 c44 f40 f41 f42 f43 f44
  have J := J2
  clear J2
  generalize u1.drewN nq = u2 at *
  have c00 := J.out.c00
  have c01 := J.out.c01
  have c10 := J.out.c10
  have c11 := J.out.c11
  have c20 := J.out.c20
  have c21 := J.out.c21
  have c30 := J.out.c30
  have c31 := J.out.c31
  have c32 := J.out.c32
  have c33 := J.out.c33
  have c40 := J.out.c40
  have c41 := J.out.c41
  have c42 := J.out.c42
  have c43 := J.out.c43
  have c44 := J.out.c44
  have f40 := J.out.f40
  have f41 := J.out.f41
  have f42 := J.out.f42
  have f43 := J.out.f43
  have f44 := J.out.f44
  go_wp2
  rw [rounds_succ]
  go_wp2_with (fail)
  have J0 := J.out
  clear J
  have J := J0
  clear J0 c00 c01 c10 c11 c20 c21 c30 c31 c32 c33 c40 c41 c42 c43 c44 f40 f41 f42 f43 f44
  clear t00 t01 t02 t03 t04 t10 t11 t12 t13 t14 y0 y1
  replace C1 := C1.out
  replace C2 := C2.out
  refine wp_drawn (R := fun W W' => Below W.heap.size W W') 14 [.val (.agg #[.int .i64 n0, .int .i64 n1]), .val (pl n0 n1), .val (.agg #[.int .i64 k0, .int .i64 k1]), .val (pl k0 k1), .val (.agg #[.int .i64 s0, .int .i64 s1]), .val (pl s0 s1), .val (.pointer (some ⟨w.heap.size + 1 + 1 + 1, 0, none⟩)), .val (.int .i64 p0), .val (.pointer (some ⟨w.heap.size + 1 + 1 + 1, 1, none⟩)), .val (.int .i64 p1), .val (.agg #[.int .i64 p0, .int .i64 p1]), .val (pl p0 p1), .val (.agg #[pl n0 n1, pl k0 k1, pl s0 s1, pl p0 p1, .complex .f64 0 0]), newSpec z5 (w.heap.size + 5)] (fun W => O n0 n1 k0 k1 s0 s1 p0 p1 p2 p3 w W) rfl (by kernel_rfl) J.drew ?_ ?_
  · intro vs W hG b hb
    have e4 : b.eval (.tmp 4) = .pointer (some ⟨w.heap.size, 0, none⟩) := (congrArg (fun x => Act.eval x (.tmp 4)) hb).trans ((fill_out _ 0 _ (by kernel_rfl)).trans rfl)
    have e5 : b.eval (.tmp 5) = .pointer (some ⟨w.heap.size + 1, 0, none⟩) := (congrArg (fun x => Act.eval x (.tmp 5)) hb).trans ((fill_out _ 0 _ (by kernel_rfl)).trans rfl)
    have e6 : b.eval (.tmp 6) = .pointer (some ⟨w.heap.size + 1 + 1, 0, none⟩) := (congrArg (fun x => Act.eval x (.tmp 6)) hb).trans ((fill_out _ 0 _ (by kernel_rfl)).trans rfl)
    have e7 : b.eval (.tmp 7) = .pointer (some ⟨w.heap.size + 1 + 1 + 1, 0, none⟩) := (congrArg (fun x => Act.eval x (.tmp 7)) hb).trans ((fill_out _ 0 _ (by kernel_rfl)).trans rfl)
    have i59 : b.eval (.tmp 59) = vs 0 := (congrArg (fun x => Act.eval x (.tmp 59)) hb).trans ((fill_in _ 0 0 _ _ 59 (by kernel_rfl) rfl rfl (by simp)).trans (congrArg vs (Nat.zero_add _)))
    have i60 : b.eval (.tmp 60) = vs 1 := (congrArg (fun x => Act.eval x (.tmp 60)) hb).trans ((fill_in _ 0 1 _ _ 60 (by kernel_rfl) rfl rfl (by simp)).trans (congrArg vs (Nat.zero_add _)))
    have i61 : b.eval (.tmp 61) = vs 2 := (congrArg (fun x => Act.eval x (.tmp 61)) hb).trans ((fill_in _ 0 2 _ _ 61 (by kernel_rfl) rfl rfl (by simp)).trans (congrArg vs (Nat.zero_add _)))
    have i62 : b.eval (.tmp 62) = vs 3 := (congrArg (fun x => Act.eval x (.tmp 62)) hb).trans ((fill_in _ 0 3 _ _ 62 (by kernel_rfl) rfl rfl (by simp)).trans (congrArg vs (Nat.zero_add _)))
    have i63 : b.eval (.tmp 63) = vs 4 := (congrArg (fun x => Act.eval x (.tmp 63)) hb).trans ((fill_in _ 0 4 _ _ 63 (by kernel_rfl) rfl rfl (by simp)).trans (congrArg vs (Nat.zero_add _)))
    have i64 : b.eval (.tmp 64) = vs 5 := (congrArg (fun x => Act.eval x (.tmp 64)) hb).trans ((fill_in _ 0 5 _ _ 64 (by kernel_rfl) rfl rfl (by simp)).trans (congrArg vs (Nat.zero_add _)))
    have i65 : b.eval (.tmp 65) = vs 6 := (congrArg (fun x => Act.eval x (.tmp 65)) hb).trans ((fill_in _ 0 6 _ _ 65 (by kernel_rfl) rfl rfl (by simp)).trans (congrArg vs (Nat.zero_add _)))
    have i66 : b.eval (.tmp 66) = vs 7 := (congrArg (fun x => Act.eval x (.tmp 66)) hb).trans ((fill_in _ 0 7 _ _ 66 (by kernel_rfl) rfl rfl (by simp)).trans (congrArg vs (Nat.zero_add _)))
    have i67 : b.eval (.tmp 67) = vs 8 := (congrArg (fun x => Act.eval x (.tmp 67)) hb).trans ((fill_in _ 0 8 _ _ 67 (by kernel_rfl) rfl rfl (by simp)).trans (congrArg vs (Nat.zero_add _)))
    have i68 : b.eval (.tmp 68) = vs 9 := (congrArg (fun x => Act.eval x (.tmp 68)) hb).trans ((fill_in _ 0 9 _ _ 68 (by kernel_rfl) rfl rfl (by simp)).trans (congrArg vs (Nat.zero_add _)))
    have i69 : b.eval (.tmp 69) = vs 10 := (congrArg (fun x => Act.eval x (.tmp 69)) hb).trans ((fill_in _ 0 10 _ _ 69 (by kernel_rfl) rfl rfl (by simp)).trans (congrArg vs (Nat.zero_add _)))
    have i70 : b.eval (.tmp 70) = vs 11 := (congrArg (fun x => Act.eval x (.tmp 70)) hb).trans ((fill_in _ 0 11 _ _ 70 (by kernel_rfl) rfl rfl (by simp)).trans (congrArg vs (Nat.zero_add _)))
    clear hb
    refine And.intro ?_ (And.intro ?_ (And.intro ?_ (And.intro ?_ (And.intro ?_ (And.intro ?_ (And.intro ?_ (And.intro ?_ (And.intro ?_ (And.intro ?_ (And.intro ?_ (And.intro ?_ (And.intro ?_ (And.intro ?_ (trivial))))))))))))))
    · intro hp K hK
      refine g_no rfl ?_
      exact st_load rfl (e4) (ld2 hG.b0) (hK _ _ rfl hG (Below.refl _ _))
    · intro hp K hK
      refine g_no rfl ?_
      have e59 : b.eval (.tmp 59) = .agg #[.int .i64 n0, .int .i64 n1] := i59.trans (hp 0 (by kernel_rfl))
      refine st_call rfl (by first | (simp only [List.map_toArray, List.map_cons, List.map_nil, eval_const, e59]; done) | (simp only [List.map_toArray, List.map_cons, List.map_nil, eval_const, e59]; rfl)) (by kernel_rfl) ?_
      refine (plane_is n0 n1 _).mono ?_
      rintro e w' ⟨rfl, hb'⟩
      exact ⟨_, rfl, hK _ _ rfl (hG.step hb') hb'⟩
    · intro hp K hK
      refine g_no rfl ?_
      exact st_load rfl (e5) (ld2 hG.b1) (hK _ _ rfl hG (Below.refl _ _))
    · intro hp K hK
      refine g_no rfl ?_
      have e61 : b.eval (.tmp 61) = .agg #[.int .i64 k0, .int .i64 k1] := i61.trans (hp 2 (by kernel_rfl))
      refine st_call rfl (by first | (simp only [List.map_toArray, List.map_cons, List.map_nil, eval_const, e61]; done) | (simp only [List.map_toArray, List.map_cons, List.map_nil, eval_const, e61]; rfl)) (by kernel_rfl) ?_
      refine (plane_is k0 k1 _).mono ?_
      rintro e w' ⟨rfl, hb'⟩
      exact ⟨_, rfl, hK _ _ rfl (hG.step hb') hb'⟩
    · intro hp K hK
      refine g_no rfl ?_
      exact st_load rfl (e6) (ld2 hG.b2) (hK _ _ rfl hG (Below.refl _ _))
    · intro hp K hK
      refine g_no rfl ?_
      have e63 : b.eval (.tmp 63) = .agg #[.int .i64 s0, .int .i64 s1] := i63.trans (hp 4 (by kernel_rfl))
      refine st_call rfl (by first | (simp only [List.map_toArray, List.map_cons, List.map_nil, eval_const, e63]; done) | (simp only [List.map_toArray, List.map_cons, List.map_nil, eval_const, e63]; rfl)) (by kernel_rfl) ?_
      refine (plane_is s0 s1 _).mono ?_
      rintro e w' ⟨rfl, hb'⟩
      exact ⟨_, rfl, hK _ _ rfl (hG.step hb') hb'⟩
    · intro hp K hK
      refine g_no rfl ?_
      exact st_index rfl (e7) (eval_const _) (by kernel_rfl) (hK _ _ rfl hG (Below.refl _ _))
    · intro hp K hK
      refine g_no rfl ?_
      have e65 : b.eval (.tmp 65) = .pointer (some ⟨w.heap.size + 1 + 1 + 1, 0, none⟩) := i65.trans (hp 6 (by kernel_rfl))
      exact st_load rfl (e65) (ld1 hG.c30) (hK _ _ rfl hG (Below.refl _ _))
    · intro hp K hK
      refine g_no rfl ?_
      exact st_index rfl (e7) (eval_const _) (by kernel_rfl) (hK _ _ rfl hG (Below.refl _ _))
    · intro hp K hK
      refine g_no rfl ?_
      have e67 : b.eval (.tmp 67) = .pointer (some ⟨w.heap.size + 1 + 1 + 1, 1, none⟩) := i67.trans (hp 8 (by kernel_rfl))
      exact st_load rfl (e67) (ld1 hG.c31) (hK _ _ rfl hG (Below.refl _ _))
    · intro hp K hK
      refine g_no rfl ?_
      have e66 : b.eval (.tmp 66) = .int .i64 p0 := i66.trans (hp 7 (by kernel_rfl))
      have e68 : b.eval (.tmp 68) = .int .i64 p1 := i68.trans (hp 9 (by kernel_rfl))
      exact st_build rfl (by first | (simp only [List.map_toArray, List.map_cons, List.map_nil, eval_const, e66, e68]; done) | (simp only [List.map_toArray, List.map_cons, List.map_nil, eval_const, e66, e68]; rfl)) (by kernel_rfl) (hK _ _ rfl hG (Below.refl _ _))
    · intro hp K hK
      refine g_no rfl ?_
      have e69 : b.eval (.tmp 69) = .agg #[.int .i64 p0, .int .i64 p1] := i69.trans (hp 10 (by kernel_rfl))
      refine st_call rfl (by first | (simp only [List.map_toArray, List.map_cons, List.map_nil, eval_const, e69]; done) | (simp only [List.map_toArray, List.map_cons, List.map_nil, eval_const, e69]; rfl)) (by kernel_rfl) ?_
      refine (plane_is p0 p1 _).mono ?_
      rintro e w' ⟨rfl, hb'⟩
      exact ⟨_, rfl, hK _ _ rfl (hG.step hb') hb'⟩
    · intro hp K hK
      refine g_no rfl ?_
      have e60 : b.eval (.tmp 60) = pl n0 n1 := i60.trans (hp 1 (by kernel_rfl))
      have e62 : b.eval (.tmp 62) = pl k0 k1 := i62.trans (hp 3 (by kernel_rfl))
      have e64 : b.eval (.tmp 64) = pl s0 s1 := i64.trans (hp 5 (by kernel_rfl))
      have e70 : b.eval (.tmp 70) = pl p0 p1 := i70.trans (hp 11 (by kernel_rfl))
      exact st_build rfl (by first | (simp only [List.map_toArray, List.map_cons, List.map_nil, eval_const, e60, e62, e64, e70]; done) | (simp only [List.map_toArray, List.map_cons, List.map_nil, eval_const, e60, e62, e64, e70]; rfl)) (by kernel_rfl) (hK _ _ rfl hG (Below.refl _ _))
    · intro hp K hK
      refine g_no rfl ?_
      exact st_alloc rfl (new5 W) (hK _ _ ⟨_, rfl, blk_new _ _, hG.size⟩ (hG.alloc _) ((Below.refl _ _).alloc (Nat.le_refl _) _))
  intro vs W hG hp b hb
  have q0 : vs 0 = .agg #[.int .i64 n0, .int .i64 n1] := hp 0 (by decide)
  have q1 : vs 1 = pl n0 n1 := hp 1 (by decide)
  have q2 : vs 2 = .agg #[.int .i64 k0, .int .i64 k1] := hp 2 (by decide)
  have q3 : vs 3 = pl k0 k1 := hp 3 (by decide)
  have q4 : vs 4 = .agg #[.int .i64 s0, .int .i64 s1] := hp 4 (by decide)
  have q5 : vs 5 = pl s0 s1 := hp 5 (by decide)
  have q6 : vs 6 = .pointer (some ⟨w.heap.size + 1 + 1 + 1, 0, none⟩) := hp 6 (by decide)
  have q7 : vs 7 = .int .i64 p0 := hp 7 (by decide)
  have q8 : vs 8 = .pointer (some ⟨w.heap.size + 1 + 1 + 1, 1, none⟩) := hp 8 (by decide)
  have q9 : vs 9 = .int .i64 p1 := hp 9 (by decide)
  have q10 : vs 10 = .agg #[.int .i64 p0, .int .i64 p1] := hp 10 (by decide)
  have q11 : vs 11 = pl p0 p1 := hp 11 (by decide)
  have q12 : vs 12 = .agg #[pl n0 n1, pl k0 k1, pl s0 s1, pl p0 p1, .complex .f64 0 0] := hp 12 (by decide)
  have q13 : ∃ g, (vs 13) = .pointer (some ⟨g, 0, none⟩) ∧ W.heap[g]? = some z5 ∧ w.heap.size + 5 ≤ g := hp 13 (by decide)
  clear hp
  simp only [fill, Act.put, List.append_eq, List.cons_append, List.nil_append, List.take_succ_cons, List.take_zero, List.setIfInBounds_toArray, List.set_cons_succ, List.set_cons_zero, Nat.reduceAdd, Nat.zero_add, q0, q1, q2, q3, q4, q5, q6, q7, q8, q9, q10, q11, q12] at hb
  subst hb
  simp only [List.append_eq, List.cons_append, List.nil_append, List.drop_succ_cons, List.drop_zero]
  clear q0 q1 q2 q3 q4 q5 q6 q7 q8 q9 q10 q11 q12
  obtain ⟨g, hv, A, hg⟩ := q13
  rw [hv]
  clear hv J
  have z0 := zc0 A
  have y0 := zf0 A
  have z1 := zc1 A
  have y1 := zf1 A
  have z2 := zc2 A
  have y2 := zf2 A
  have z3 := zc3 A
  have y3 := zf3 A
  have z4 := zc4 A
  have y4 := zf4 A
  go_wp2
  clear z0 y0 z1 y1 z2 y2 z3 y3 z4 y4
  have hJ := ((((hG.set hg 0 (pl n0 n1)).set hg 1 (pl k0 k1)).set hg 2 (pl s0 s1)).set hg 3 (pl p0 p1)).set hg 4 (.complex .f64 0 0)
  have hA := blk_put (blk_put (blk_put (blk_put (blk_put A 0 (pl n0 n1) rfl) 1 (pl k0 k1) rfl) 2 (pl s0 s1) rfl) 3 (pl p0 p1) rfl) 4 (.complex .f64 0 0) rfl
  have hA' : _ = some (fr5 n0 n1 k0 k1 s0 s1 p0 p1 (.complex .f64 0 0)) := hA
  clear hA
  generalize ((((W.setCell ⟨g, 0, none⟩ (pl n0 n1)).setCell ⟨g, 1, none⟩ (pl k0 k1)).setCell ⟨g, 2, none⟩ (pl s0 s1)).setCell ⟨g, 3, none⟩ (pl p0 p1)).setCell ⟨g, 4, none⟩ (.complex .f64 0 0) = V at *
  clear hG A vs
  refine wp_drawn (R := fun W W' => Below W.heap.size W W') 13 [.val (.pointer (some ⟨g, 0, none⟩)), .val (pl n0 n1), .val (.pointer (some ⟨g, 3, none⟩)), .val (pl p0 p1), .val (pl (n0 + p0) (n1 + p1)), .val (.pointer (some ⟨w.heap.size + 1 + 1 + 1, 2, none⟩)), .val (.int .i64 p2), .val (.pointer (some ⟨w.heap.size + 1 + 1 + 1, 3, none⟩)), .val (.int .i64 p3), .val (.agg #[.int .i64 p2, .int .i64 p3]), .val (pl p2 p3), .val (pl (n0 + p0 + p2) (n1 + p1 + p3)), .val (.pointer (some ⟨g, 4, none⟩))] (fun W => O n0 n1 k0 k1 s0 s1 p0 p1 p2 p3 w W ∧ W.heap[g]? = some (fr5 n0 n1 k0 k1 s0 s1 p0 p1 (.complex .f64 0 0))) rfl (by kernel_rfl) ⟨hJ.drew, hA'⟩ ?_ ?_
  · intro vs W hG b hb
    have e7 : b.eval (.tmp 7) = .pointer (some ⟨w.heap.size + 1 + 1 + 1, 0, none⟩) := (congrArg (fun x => Act.eval x (.tmp 7)) hb).trans ((fill_out _ 0 _ (by kernel_rfl)).trans rfl)
    have e11 : b.eval (.tmp 11) = .pointer (some ⟨g, 0, none⟩) := (congrArg (fun x => Act.eval x (.tmp 11)) hb).trans ((fill_out _ 0 _ (by kernel_rfl)).trans rfl)
    have i72 : b.eval (.tmp 72) = vs 0 := (congrArg (fun x => Act.eval x (.tmp 72)) hb).trans ((fill_in _ 0 0 _ _ 72 (by kernel_rfl) rfl rfl (by simp)).trans (congrArg vs (Nat.zero_add _)))
    have i73 : b.eval (.tmp 73) = vs 1 := (congrArg (fun x => Act.eval x (.tmp 73)) hb).trans ((fill_in _ 0 1 _ _ 73 (by kernel_rfl) rfl rfl (by simp)).trans (congrArg vs (Nat.zero_add _)))
    have i74 : b.eval (.tmp 74) = vs 2 := (congrArg (fun x => Act.eval x (.tmp 74)) hb).trans ((fill_in _ 0 2 _ _ 74 (by kernel_rfl) rfl rfl (by simp)).trans (congrArg vs (Nat.zero_add _)))
    have i75 : b.eval (.tmp 75) = vs 3 := (congrArg (fun x => Act.eval x (.tmp 75)) hb).trans ((fill_in _ 0 3 _ _ 75 (by kernel_rfl) rfl rfl (by simp)).trans (congrArg vs (Nat.zero_add _)))
    have i76 : b.eval (.tmp 76) = vs 4 := (congrArg (fun x => Act.eval x (.tmp 76)) hb).trans ((fill_in _ 0 4 _ _ 76 (by kernel_rfl) rfl rfl (by simp)).trans (congrArg vs (Nat.zero_add _)))
    have i77 : b.eval (.tmp 77) = vs 5 := (congrArg (fun x => Act.eval x (.tmp 77)) hb).trans ((fill_in _ 0 5 _ _ 77 (by kernel_rfl) rfl rfl (by simp)).trans (congrArg vs (Nat.zero_add _)))
    have i78 : b.eval (.tmp 78) = vs 6 := (congrArg (fun x => Act.eval x (.tmp 78)) hb).trans ((fill_in _ 0 6 _ _ 78 (by kernel_rfl) rfl rfl (by simp)).trans (congrArg vs (Nat.zero_add _)))
    have i79 : b.eval (.tmp 79) = vs 7 := (congrArg (fun x => Act.eval x (.tmp 79)) hb).trans ((fill_in _ 0 7 _ _ 79 (by kernel_rfl) rfl rfl (by simp)).trans (congrArg vs (Nat.zero_add _)))
    have i80 : b.eval (.tmp 80) = vs 8 := (congrArg (fun x => Act.eval x (.tmp 80)) hb).trans ((fill_in _ 0 8 _ _ 80 (by kernel_rfl) rfl rfl (by simp)).trans (congrArg vs (Nat.zero_add _)))
    have i81 : b.eval (.tmp 81) = vs 9 := (congrArg (fun x => Act.eval x (.tmp 81)) hb).trans ((fill_in _ 0 9 _ _ 81 (by kernel_rfl) rfl rfl (by simp)).trans (congrArg vs (Nat.zero_add _)))
    have i82 : b.eval (.tmp 82) = vs 10 := (congrArg (fun x => Act.eval x (.tmp 82)) hb).trans ((fill_in _ 0 10 _ _ 82 (by kernel_rfl) rfl rfl (by simp)).trans (congrArg vs (Nat.zero_add _)))
    clear hb
    refine And.intro ?_ (And.intro ?_ (And.intro ?_ (And.intro ?_ (And.intro ?_ (And.intro ?_ (And.intro ?_ (And.intro ?_ (And.intro ?_ (And.intro ?_ (And.intro ?_ (And.intro ?_ (And.intro ?_ (trivial)))))))))))))
    · intro hp K hK
      refine g_no rfl ?_
      exact st_field rfl (e11) (by kernel_rfl) (hK _ _ rfl hG (Below.refl _ _))
    · intro hp K hK
      refine g_no rfl ?_
      have e72 : b.eval (.tmp 72) = .pointer (some ⟨g, 0, none⟩) := i72.trans (hp 0 (by kernel_rfl))
      exact st_load rfl (e72) (ldp ((blk_cell hG.2 0).trans rfl)) (hK _ _ rfl hG (Below.refl _ _))
    · intro hp K hK
      refine g_no rfl ?_
      exact st_field rfl (e11) (by kernel_rfl) (hK _ _ rfl hG (Below.refl _ _))
    · intro hp K hK
      refine g_no rfl ?_
      have e74 : b.eval (.tmp 74) = .pointer (some ⟨g, 3, none⟩) := i74.trans (hp 2 (by kernel_rfl))
      exact st_load rfl (e74) (ldp ((blk_cell hG.2 3).trans rfl)) (hK _ _ rfl hG (Below.refl _ _))
    · intro hp K hK
      refine g_no rfl ?_
      have e73 : b.eval (.tmp 73) = pl n0 n1 := i73.trans (hp 1 (by kernel_rfl))
      have e75 : b.eval (.tmp 75) = pl p0 p1 := i75.trans (hp 3 (by kernel_rfl))
      exact st_bin rfl (e73) (e75) (bin_st rfl C1) (hK _ _ rfl hG (Below.refl _ _))
    · intro hp K hK
      refine g_no rfl ?_
      exact st_index rfl (e7) (eval_const _) (by kernel_rfl) (hK _ _ rfl hG (Below.refl _ _))
    · intro hp K hK
      refine g_no rfl ?_
      have e77 : b.eval (.tmp 77) = .pointer (some ⟨w.heap.size + 1 + 1 + 1, 2, none⟩) := i77.trans (hp 5 (by kernel_rfl))
      exact st_load rfl (e77) (ld1 hG.1.c32) (hK _ _ rfl hG (Below.refl _ _))
    · intro hp K hK
      refine g_no rfl ?_
      exact st_index rfl (e7) (eval_const _) (by kernel_rfl) (hK _ _ rfl hG (Below.refl _ _))
    · intro hp K hK
      refine g_no rfl ?_
      have e79 : b.eval (.tmp 79) = .pointer (some ⟨w.heap.size + 1 + 1 + 1, 3, none⟩) := i79.trans (hp 7 (by kernel_rfl))
      exact st_load rfl (e79) (ld1 hG.1.c33) (hK _ _ rfl hG (Below.refl _ _))
    · intro hp K hK
      refine g_no rfl ?_
      have e78 : b.eval (.tmp 78) = .int .i64 p2 := i78.trans (hp 6 (by kernel_rfl))
      have e80 : b.eval (.tmp 80) = .int .i64 p3 := i80.trans (hp 8 (by kernel_rfl))
      exact st_build rfl (by first | (simp only [List.map_toArray, List.map_cons, List.map_nil, eval_const, e78, e80]; done) | (simp only [List.map_toArray, List.map_cons, List.map_nil, eval_const, e78, e80]; rfl)) (by kernel_rfl) (hK _ _ rfl hG (Below.refl _ _))
    · intro hp K hK
      refine g_no rfl ?_
      have e81 : b.eval (.tmp 81) = .agg #[.int .i64 p2, .int .i64 p3] := i81.trans (hp 9 (by kernel_rfl))
      refine st_call rfl (by first | (simp only [List.map_toArray, List.map_cons, List.map_nil, eval_const, e81]; done) | (simp only [List.map_toArray, List.map_cons, List.map_nil, eval_const, e81]; rfl)) (by kernel_rfl) ?_
      refine (plane_is p2 p3 _).mono ?_
      rintro e w' ⟨rfl, hb'⟩
      exact ⟨_, rfl, hK _ _ rfl ⟨hG.1.step hb', blk_below hG.2 hb'⟩ hb'⟩
    · intro hp K hK
      refine g_no rfl ?_
      have e76 : b.eval (.tmp 76) = pl (n0 + p0) (n1 + p1) := i76.trans (hp 4 (by kernel_rfl))
      have e82 : b.eval (.tmp 82) = pl p2 p3 := i82.trans (hp 10 (by kernel_rfl))
      exact st_bin rfl (e76) (e82) (bin_st rfl C2) (hK _ _ rfl hG (Below.refl _ _))
    · intro hp K hK
      refine g_no rfl ?_
      exact st_field rfl (e11) (by kernel_rfl) (hK _ _ rfl hG (Below.refl _ _))
  intro vs W hG hp b hb
  have q0 : vs 0 = .pointer (some ⟨g, 0, none⟩) := hp 0 (by decide)
  have q1 : vs 1 = pl n0 n1 := hp 1 (by decide)
  have q2 : vs 2 = .pointer (some ⟨g, 3, none⟩) := hp 2 (by decide)
  have q3 : vs 3 = pl p0 p1 := hp 3 (by decide)
  have q4 : vs 4 = pl (n0 + p0) (n1 + p1) := hp 4 (by decide)
  have q5 : vs 5 = .pointer (some ⟨w.heap.size + 1 + 1 + 1, 2, none⟩) := hp 5 (by decide)
  have q6 : vs 6 = .int .i64 p2 := hp 6 (by decide)
  have q7 : vs 7 = .pointer (some ⟨w.heap.size + 1 + 1 + 1, 3, none⟩) := hp 7 (by decide)
  have q8 : vs 8 = .int .i64 p3 := hp 8 (by decide)
  have q9 : vs 9 = .agg #[.int .i64 p2, .int .i64 p3] := hp 9 (by decide)
  have q10 : vs 10 = pl p2 p3 := hp 10 (by decide)
  have q11 : vs 11 = pl (n0 + p0 + p2) (n1 + p1 + p3) := hp 11 (by decide)
  have q12 : vs 12 = .pointer (some ⟨g, 4, none⟩) := hp 12 (by decide)
  clear hp
  simp only [fill, Act.put, List.append_eq, List.cons_append, List.nil_append, List.take_succ_cons, List.take_zero, List.setIfInBounds_toArray, List.set_cons_succ, List.set_cons_zero, Nat.reduceAdd, Nat.zero_add, q0, q1, q2, q3, q4, q5, q6, q7, q8, q9, q10, q11, q12] at hb
  subst hb
  simp only [List.append_eq, List.cons_append, List.nil_append, List.drop_succ_cons, List.drop_zero]
  clear q0 q1 q2 q3 q4 q5 q6 q7 q8 q9 q10 q11 q12
  obtain ⟨hG, A⟩ := hG
  clear hJ hA' C1 C2
  have y4 := blk_frozen A 4
  have z4 : W.cell? ⟨g, 4, none⟩ = some (.complex .f64 0 0) := (blk_cell A 4).trans rfl
  have z0 : W.cell? ⟨g, 0, none⟩ = some (pl n0 n1) := (blk_cell A 0).trans rfl
  have z1 : W.cell? ⟨g, 1, none⟩ = some (pl k0 k1) := (blk_cell A 1).trans rfl
  have z2 : W.cell? ⟨g, 2, none⟩ = some (pl s0 s1) := (blk_cell A 2).trans rfl
  have z3 : W.cell? ⟨g, 3, none⟩ = some (pl p0 p1) := (blk_cell A 3).trans rfl
  have h40 := hG.c40
  have g40 := hG.f40
  have h41 := hG.c41
  have g41 := hG.f41
  have h42 := hG.c42
  have g42 := hG.f42
  have h43 := hG.c43
  have g43 := hG.f43
  have h44 := hG.c44
  have g44 := hG.f44
  have hne : g ≠ w.heap.size + 1 + 1 + 1 + 1 := by omega
  have hne' : w.heap.size + 1 + 1 + 1 + 1 ≠ g := by omega
  replace C3 := C3.out
  replace C4 := C4.out
  go_wp2
  have hZ := hG.set hg 4 (pl (n0 + p0 + p2) (n1 + p1 + p3))
  refine bodyPost_ret (results_ct rfl _ _ (w.heap.size + 1 + 1 + 1 + 1) 53 #[pl n0 n1, pl k0 k1, pl s0 s1, pl p0 p1, pl (n0 + p0 + p2) (n1 + p1 + p3)] (0, 0) _ rfl (blk_put (blk_put (blk_put (blk_put (blk_put hZ.b4 0 _ rfl) 1 _ rfl) 2 _ rfl) 3 _ rfl) 4 _ rfl) Try.underlying53 rfl (by kernel_rfl)) rfl ?_
  exact ⟨_, _, _, _, _, _, _, _, _, _, rfl, below_set (below_set (below_set (below_set (below_set hZ.bel (by omega)) (by omega)) (by omega)) (by omega)) (by omega)⟩
set_option maxHeartbeats 4000000 in
theorem of_no21 (n0 n1 k0 k1 s0 s1 p0 p1 p2 p3 : Int) (w : World) (t00 : decide (1 ≤ n0 ∧ n0 ≤ 64) = true) (t01 : decide (1 ≤ k0 ∧ k0 ≤ 8) = true) (t02 : decide (1 ≤ s0 ∧ s0 ≤ 8) = true) (t03 : decide (0 ≤ p0 ∧ p0 ≤ (k0 - 1)) = true) (t04 : decide (0 ≤ p2 ∧ p2 ≤ (k0 - 1)) = true) (t10 : decide (1 ≤ n1 ∧ n1 ≤ 64) = true) (t11 : decide (1 ≤ k1 ∧ k1 ≤ 8) = true) (t12 : decide (1 ≤ s1 ∧ s1 ≤ 8) = true) (t13 : decide (0 ≤ p1 ∧ p1 ≤ (k1 - 1)) = true) (t14 : decide (0 ≤ p3 ∧ p3 ≤ (k1 - 1)) = true) (r0 : decide (0 ≤ (n0 + p0 + p2) - k0) = true) (r1 : decide (0 ≤ (n1 + p1 + p3) - k1) = false) : Calls Try.prog 29 #[.agg #[.int .i64 n0, .int .i64 n1], .agg #[.int .i64 k0, .int .i64 k1], .agg #[.int .i64 s0, .int .i64 s1], .agg #[.int .i64 p0, .int .i64 p1, .int .i64 p2, .int .i64 p3]] w (NoFrame w) := by
  have B := (show (1 ≤ n0 ∧ n0 ≤ 64) ∧ (1 ≤ k0 ∧ k0 ≤ 8) ∧ (1 ≤ s0 ∧ s0 ≤ 8) ∧ (0 ≤ p0 ∧ p0 ≤ k0 - 1) ∧ (0 ≤ p2 ∧ p2 ≤ k0 - 1) ∧ (1 ≤ n1 ∧ n1 ≤ 64) ∧ (1 ≤ k1 ∧ k1 ≤ 8) ∧ (1 ≤ s1 ∧ s1 ≤ 8) ∧ (0 ≤ p1 ∧ p1 ≤ k1 - 1) ∧ (0 ≤ p3 ∧ p3 ≤ k1 - 1) from ⟨of_decide_eq_true t00, of_decide_eq_true t01, of_decide_eq_true t02, of_decide_eq_true t03, of_decide_eq_true t04, of_decide_eq_true t10, of_decide_eq_true t11, of_decide_eq_true t12, of_decide_eq_true t13, of_decide_eq_true t14⟩)
  have C1 := cadd n0 n1 p0 p1 ⟨by omega, by omega⟩ ⟨by omega, by omega⟩ ⟨by omega, by omega⟩ ⟨by omega, by omega⟩ ⟨by omega, by omega⟩ ⟨by omega, by omega⟩
  have C2 := cadd (n0 + p0) (n1 + p1) p2 p3 ⟨by omega, by omega⟩ ⟨by omega, by omega⟩ ⟨by omega, by omega⟩ ⟨by omega, by omega⟩ ⟨by omega, by omega⟩ ⟨by omega, by omega⟩
  have C3 := Lib.hid (csub (n0 + p0 + p2) (n1 + p1 + p3) k0 k1 ⟨by omega, by omega⟩ ⟨by omega, by omega⟩ ⟨by omega, by omega⟩ ⟨by omega, by omega⟩ ⟨by omega, by omega⟩ ⟨by omega, by omega⟩ (by omega) (by omega))
  have C4 := Lib.hid (fgeB ((n0 + p0 + p2) - k0) ⟨by omega, by omega⟩ true r0)
  have C5 := Lib.hid (fgeB ((n1 + p1 + p3) - k1) ⟨by omega, by omega⟩ false r1)
  have C1 := Lib.hid C1
  have C2 := Lib.hid C2
  clear B r0 r1
  have J := Lib.hid (O.start n0 n1 k0 k1 s0 s1 p0 p1 p2 p3 w)
  have y0 : IntKind.i64.wrap (k0 - 1) = k0 - 1 := IntWalk.i64_in _ (by have := of_decide_eq_true t01; omega)
  have y1 : IntKind.i64.wrap (k1 - 1) = k1 - 1 := IntWalk.i64_in _ (by have := of_decide_eq_true t11; omega)
  go_enter Try.func29, Try.ntmps29
  go_wp2
  generalize ((((w.alloc (box2 n0 n1)).alloc (box2 k0 k1)).alloc (box2 s0 s1)).alloc (box4 p0 p1 p2 p3)).alloc z5 = u0 at *
  have c00 := J.out.c00
  have c01 := J.out.c01
  have c10 := J.out.c10
  have c11 := J.out.c11
  have c20 := J.out.c20
  have c21 := J.out.c21
  have c30 := J.out.c30
  have c31 := J.out.c31
  have c32 := J.out.c32
  have c33 := J.out.c33
  have c40 := J.out.c40
  have c41 := J.out.c41
  have c42 := J.out.c42
  have c43 := J.out.c43
  have c44 := J.out.c44
  have f40 := J.out.f40
  have f41 := J.out.f41
  have f42 := J.out.f42
  have f43 := J.out.f43
  have f44 := J.out.f44
  refine wp_loop_rounds 3 ?_
  rw [rounds_succ]
  go_wp2_with (first | (go_at_call_of 35 (Value.int .i64 n0); refine (good_is n0 1 64 true t00 _).mono ?_; rintro e w' ⟨rfl, rfl⟩) | (go_at_call_of 35 (Value.int .i64 k0); refine (good_is k0 1 8 true t01 _).mono ?_; rintro e w' ⟨rfl, rfl⟩) | (go_at_call_of 35 (Value.int .i64 s0); refine (good_is s0 1 8 true t02 _).mono ?_; rintro e w' ⟨rfl, rfl⟩))
  go_quiet (first | (go_at_call_of 35 (Value.int .i64 p0); exact Calls.quiet_of_same (good_q p0 0 (k0 - 1) true t03 _ _)) | (go_at_call_of 35 (Value.int .i64 p2); exact Calls.quiet_of_same (good_q p2 0 (k0 - 1) true t04 _ _)))
  have J2 := Lib.hid (J.out.drewN nq)
  clear J c00 c01 c10 c11 c20 c21 c30 c31 c32 c33 c40 c41 c42 c43 c44 f40 f41 f42 f43 f44
  have J := J2
  clear J2
  generalize u0.drewN nq = u1 at *
  have c00 := J.out.c00
  have c01 := J.out.c01
  have c10 := J.out.c10
  have c11 := J.out.c11
  have c20 := J.out.c20
  have c21 := J.out.c21
  have c30 := J.out.c30
  have c31 := J.out.c31
  have c32 := J.out.c32
  have c33 := J.out.c33
  have c40 := J.out.c40
  have c41 := J.out.c41
  have c42 := J.out.c42
  have c43 := J.out.c43
  have c44 := J.out.c44
  have f40 := J.out.f40
  have f41 := J.out.f41
  have f42 := J.out.f42
  have f43 := J.out.f43
  have f44 := J.out.f44
  go_wp2
  rw [rounds_succ]
  go_wp2_with (first | (go_at_call_of 35 (Value.int .i64 n1); refine (good_is n1 1 64 true t10 _).mono ?_; rintro e w' ⟨rfl, rfl⟩) | (go_at_call_of 35 (Value.int .i64 k1); refine (good_is k1 1 8 true t11 _).mono ?_; rintro e w' ⟨rfl, rfl⟩) | (go_at_call_of 35 (Value.int .i64 s1); refine (good_is s1 1 8 true t12 _).mono ?_; rintro e w' ⟨rfl, rfl⟩))
  go_quiet (first | (go_at_call_of 35 (Value.int .i64 p1); exact Calls.quiet_of_same (good_q p1 0 (k1 - 1) true t13 _ _)) | (go_at_call_of 35 (Value.int .i64 p3); exact Calls.quiet_of_same (good_q p3 0 (k1 - 1) true t14 _ _)))
  have J2 := Lib.hid (J.out.drewN nq)
  clear J c00 c01 c10 c11 c20 c21 c30 c31 c32 c33 c40 c41 c42 c43 c44 f40 f41 f42 f43 f44
  have J := J2
  clear J2
  generalize u1.drewN nq = u2 at *
  have c00 := J.out.c00
  have c01 := J.out.c01
  have c10 := J.out.c10
  have c11 := J.out.c11
  have c20 := J.out.c20
  have c21 := J.out.c21
  have c30 := J.out.c30
  have c31 := J.out.c31
  have c32 := J.out.c32
  have c33 := J.out.c33
  have c40 := J.out.c40
  have c41 := J.out.c41
  have c42 := J.out.c42
  have c43 := J.out.c43
  have c44 := J.out.c44
  have f40 := J.out.f40
  have f41 := J.out.f41
  have f42 := J.out.f42
  have f43 := J.out.f43
  have f44 := J.out.f44
  go_wp2
  rw [rounds_succ]
  go_wp2_with (fail)
  have J0 := J.out
  clear J
  have J := J0
  clear J0 c00 c01 c10 c11 c20 c21 c30 c31 c32 c33 c40 c41 c42 c43 c44 f40 f41 f42 f43 f44
  clear t00 t01 t02 t03 t04 t10 t11 t12 t13 t14 y0 y1
  replace C1 := C1.out
  replace C2 := C2.out
  refine wp_drawn (R := fun W W' => Below W.heap.size W W') 14 [.val (.agg #[.int .i64 n0, .int .i64 n1]), .val (pl n0 n1), .val (.agg #[.int .i64 k0, .int .i64 k1]), .val (pl k0 k1), .val (.agg #[.int .i64 s0, .int .i64 s1]), .val (pl s0 s1), .val (.pointer (some ⟨w.heap.size + 1 + 1 + 1, 0, none⟩)), .val (.int .i64 p0), .val (.pointer (some ⟨w.heap.size + 1 + 1 + 1, 1, none⟩)), .val (.int .i64 p1), .val (.agg #[.int .i64 p0, .int .i64 p1]), .val (pl p0 p1), .val (.agg #[pl n0 n1, pl k0 k1, pl s0 s1, pl p0 p1, .complex .f64 0 0]), newSpec z5 (w.heap.size + 5)] (fun W => O n0 n1 k0 k1 s0 s1 p0 p1 p2 p3 w W) rfl (by kernel_rfl) J.drew ?_ ?_
  · intro vs W hG b hb
    have e4 : b.eval (.tmp 4) = .pointer (some ⟨w.heap.size, 0, none⟩) := (congrArg (fun x => Act.eval x (.tmp 4)) hb).trans ((fill_out _ 0 _ (by kernel_rfl)).trans rfl)
    have e5 : b.eval (.tmp 5) = .pointer (some ⟨w.heap.size + 1, 0, none⟩) := (congrArg (fun x => Act.eval x (.tmp 5)) hb).trans ((fill_out _ 0 _ (by kernel_rfl)).trans rfl)
    have e6 : b.eval (.tmp 6) = .pointer (some ⟨w.heap.size + 1 + 1, 0, none⟩) := (congrArg (fun x => Act.eval x (.tmp 6)) hb).trans ((fill_out _ 0 _ (by kernel_rfl)).trans rfl)
    have e7 : b.eval (.tmp 7) = .pointer (some ⟨w.heap.size + 1 + 1 + 1, 0, none⟩) := (congrArg (fun x => Act.eval x (.tmp 7)) hb).trans ((fill_out _ 0 _ (by kernel_rfl)).trans rfl)
    have i59 : b.eval (.tmp 59) = vs 0 := (congrArg (fun x => Act.eval x (.tmp 59)) hb).trans ((fill_in _ 0 0 _ _ 59 (by kernel_rfl) rfl rfl (by simp)).trans (congrArg vs (Nat.zero_add _)))
    have i60 : b.eval (.tmp 60) = vs 1 := (congrArg (fun x => Act.eval x (.tmp 60)) hb).trans ((fill_in _ 0 1 _ _ 60 (by kernel_rfl) rfl rfl (by simp)).trans (congrArg vs (Nat.zero_add _)))
    have i61 : b.eval (.tmp 61) = vs 2 := (congrArg (fun x => Act.eval x (.tmp 61)) hb).trans ((fill_in _ 0 2 _ _ 61 (by kernel_rfl) rfl rfl (by simp)).trans (congrArg vs (Nat.zero_add _)))
    have i62 : b.eval (.tmp 62) = vs 3 := (congrArg (fun x => Act.eval x (.tmp 62)) hb).trans ((fill_in _ 0 3 _ _ 62 (by kernel_rfl) rfl rfl (by simp)).trans (congrArg vs (Nat.zero_add _)))
    have i63 : b.eval (.tmp 63) = vs 4 := (congrArg (fun x => Act.eval x (.tmp 63)) hb).trans ((fill_in _ 0 4 _ _ 63 (by kernel_rfl) rfl rfl (by simp)).trans (congrArg vs (Nat.zero_add _)))
    have i64 : b.eval (.tmp 64) = vs 5 := (congrArg (fun x => Act.eval x (.tmp 64)) hb).trans ((fill_in _ 0 5 _ _ 64 (by kernel_rfl) rfl rfl (by simp)).trans (congrArg vs (Nat.zero_add _)))
    have i65 : b.eval (.tmp 65) = vs 6 := (congrArg (fun x => Act.eval x (.tmp 65)) hb).trans ((fill_in _ 0 6 _ _ 65 (by kernel_rfl) rfl rfl (by simp)).trans (congrArg vs (Nat.zero_add _)))
    have i66 : b.eval (.tmp 66) = vs 7 := (congrArg (fun x => Act.eval x (.tmp 66)) hb).trans ((fill_in _ 0 7 _ _ 66 (by kernel_rfl) rfl rfl (by simp)).trans (congrArg vs (Nat.zero_add _)))
    have i67 : b.eval (.tmp 67) = vs 8 := (congrArg (fun x => Act.eval x (.tmp 67)) hb).trans ((fill_in _ 0 8 _ _ 67 (by kernel_rfl) rfl rfl (by simp)).trans (congrArg vs (Nat.zero_add _)))
    have i68 : b.eval (.tmp 68) = vs 9 := (congrArg (fun x => Act.eval x (.tmp 68)) hb).trans ((fill_in _ 0 9 _ _ 68 (by kernel_rfl) rfl rfl (by simp)).trans (congrArg vs (Nat.zero_add _)))
    have i69 : b.eval (.tmp 69) = vs 10 := (congrArg (fun x => Act.eval x (.tmp 69)) hb).trans ((fill_in _ 0 10 _ _ 69 (by kernel_rfl) rfl rfl (by simp)).trans (congrArg vs (Nat.zero_add _)))
    have i70 : b.eval (.tmp 70) = vs 11 := (congrArg (fun x => Act.eval x (.tmp 70)) hb).trans ((fill_in _ 0 11 _ _ 70 (by kernel_rfl) rfl rfl (by simp)).trans (congrArg vs (Nat.zero_add _)))
    clear hb
    refine And.intro ?_ (And.intro ?_ (And.intro ?_ (And.intro ?_ (And.intro ?_ (And.intro ?_ (And.intro ?_ (And.intro ?_ (And.intro ?_ (And.intro ?_ (And.intro ?_ (And.intro ?_ (And.intro ?_ (And.intro ?_ (trivial))))))))))))))
    · intro hp K hK
      refine g_no rfl ?_
      exact st_load rfl (e4) (ld2 hG.b0) (hK _ _ rfl hG (Below.refl _ _))
    · intro hp K hK
      refine g_no rfl ?_
      have e59 : b.eval (.tmp 59) = .agg #[.int .i64 n0, .int .i64 n1] := i59.trans (hp 0 (by kernel_rfl))
      refine st_call rfl (by first | (simp only [List.map_toArray, List.map_cons, List.map_nil, eval_const, e59]; done) | (simp only [List.map_toArray, List.map_cons, List.map_nil, eval_const, e59]; rfl)) (by kernel_rfl) ?_
      refine (plane_is n0 n1 _).mono ?_
      rintro e w' ⟨rfl, hb'⟩
      exact ⟨_, rfl, hK _ _ rfl (hG.step hb') hb'⟩
    · intro hp K hK
      refine g_no rfl ?_
      exact st_load rfl (e5) (ld2 hG.b1) (hK _ _ rfl hG (Below.refl _ _))
    · intro hp K hK
      refine g_no rfl ?_
      have e61 : b.eval (.tmp 61) = .agg #[.int .i64 k0, .int .i64 k1] := i61.trans (hp 2 (by kernel_rfl))
      refine st_call rfl (by first | (simp only [List.map_toArray, List.map_cons, List.map_nil, eval_const, e61]; done) | (simp only [List.map_toArray, List.map_cons, List.map_nil, eval_const, e61]; rfl)) (by kernel_rfl) ?_
      refine (plane_is k0 k1 _).mono ?_
      rintro e w' ⟨rfl, hb'⟩
      exact ⟨_, rfl, hK _ _ rfl (hG.step hb') hb'⟩
    · intro hp K hK
      refine g_no rfl ?_
      exact st_load rfl (e6) (ld2 hG.b2) (hK _ _ rfl hG (Below.refl _ _))
    · intro hp K hK
      refine g_no rfl ?_
      have e63 : b.eval (.tmp 63) = .agg #[.int .i64 s0, .int .i64 s1] := i63.trans (hp 4 (by kernel_rfl))
      refine st_call rfl (by first | (simp only [List.map_toArray, List.map_cons, List.map_nil, eval_const, e63]; done) | (simp only [List.map_toArray, List.map_cons, List.map_nil, eval_const, e63]; rfl)) (by kernel_rfl) ?_
      refine (plane_is s0 s1 _).mono ?_
      rintro e w' ⟨rfl, hb'⟩
      exact ⟨_, rfl, hK _ _ rfl (hG.step hb') hb'⟩
    · intro hp K hK
      refine g_no rfl ?_
      exact st_index rfl (e7) (eval_const _) (by kernel_rfl) (hK _ _ rfl hG (Below.refl _ _))
    · intro hp K hK
      refine g_no rfl ?_
      have e65 : b.eval (.tmp 65) = .pointer (some ⟨w.heap.size + 1 + 1 + 1, 0, none⟩) := i65.trans (hp 6 (by kernel_rfl))
      exact st_load rfl (e65) (ld1 hG.c30) (hK _ _ rfl hG (Below.refl _ _))
    · intro hp K hK
      refine g_no rfl ?_
      exact st_index rfl (e7) (eval_const _) (by kernel_rfl) (hK _ _ rfl hG (Below.refl _ _))
    · intro hp K hK
      refine g_no rfl ?_
      have e67 : b.eval (.tmp 67) = .pointer (some ⟨w.heap.size + 1 + 1 + 1, 1, none⟩) := i67.trans (hp 8 (by kernel_rfl))
      exact st_load rfl (e67) (ld1 hG.c31) (hK _ _ rfl hG (Below.refl _ _))
    · intro hp K hK
      refine g_no rfl ?_
      have e66 : b.eval (.tmp 66) = .int .i64 p0 := i66.trans (hp 7 (by kernel_rfl))
      have e68 : b.eval (.tmp 68) = .int .i64 p1 := i68.trans (hp 9 (by kernel_rfl))
      exact st_build rfl (by first | (simp only [List.map_toArray, List.map_cons, List.map_nil, eval_const, e66, e68]; done) | (simp only [List.map_toArray, List.map_cons, List.map_nil, eval_const, e66, e68]; rfl)) (by kernel_rfl) (hK _ _ rfl hG (Below.refl _ _))
    · intro hp K hK
      refine g_no rfl ?_
      have e69 : b.eval (.tmp 69) = .agg #[.int .i64 p0, .int .i64 p1] := i69.trans (hp 10 (by kernel_rfl))
      refine st_call rfl (by first | (simp only [List.map_toArray, List.map_cons, List.map_nil, eval_const, e69]; done) | (simp only [List.map_toArray, List.map_cons, List.map_nil, eval_const, e69]; rfl)) (by kernel_rfl) ?_
      refine (plane_is p0 p1 _).mono ?_
      rintro e w' ⟨rfl, hb'⟩
      exact ⟨_, rfl, hK _ _ rfl (hG.step hb') hb'⟩
    · intro hp K hK
      refine g_no rfl ?_
      have e60 : b.eval (.tmp 60) = pl n0 n1 := i60.trans (hp 1 (by kernel_rfl))
      have e62 : b.eval (.tmp 62) = pl k0 k1 := i62.trans (hp 3 (by kernel_rfl))
      have e64 : b.eval (.tmp 64) = pl s0 s1 := i64.trans (hp 5 (by kernel_rfl))
      have e70 : b.eval (.tmp 70) = pl p0 p1 := i70.trans (hp 11 (by kernel_rfl))
      exact st_build rfl (by first | (simp only [List.map_toArray, List.map_cons, List.map_nil, eval_const, e60, e62, e64, e70]; done) | (simp only [List.map_toArray, List.map_cons, List.map_nil, eval_const, e60, e62, e64, e70]; rfl)) (by kernel_rfl) (hK _ _ rfl hG (Below.refl _ _))
    · intro hp K hK
      refine g_no rfl ?_
      exact st_alloc rfl (new5 W) (hK _ _ ⟨_, rfl, blk_new _ _, hG.size⟩ (hG.alloc _) ((Below.refl _ _).alloc (Nat.le_refl _) _))
  intro vs W hG hp b hb
  have q0 : vs 0 = .agg #[.int .i64 n0, .int .i64 n1] := hp 0 (by decide)
  have q1 : vs 1 = pl n0 n1 := hp 1 (by decide)
  have q2 : vs 2 = .agg #[.int .i64 k0, .int .i64 k1] := hp 2 (by decide)
  have q3 : vs 3 = pl k0 k1 := hp 3 (by decide)
  have q4 : vs 4 = .agg #[.int .i64 s0, .int .i64 s1] := hp 4 (by decide)
  have q5 : vs 5 = pl s0 s1 := hp 5 (by decide)
  have q6 : vs 6 = .pointer (some ⟨w.heap.size + 1 + 1 + 1, 0, none⟩) := hp 6 (by decide)
  have q7 : vs 7 = .int .i64 p0 := hp 7 (by decide)
  have q8 : vs 8 = .pointer (some ⟨w.heap.size + 1 + 1 + 1, 1, none⟩) := hp 8 (by decide)
  have q9 : vs 9 = .int .i64 p1 := hp 9 (by decide)
  have q10 : vs 10 = .agg #[.int .i64 p0, .int .i64 p1] := hp 10 (by decide)
  have q11 : vs 11 = pl p0 p1 := hp 11 (by decide)
  have q12 : vs 12 = .agg #[pl n0 n1, pl k0 k1, pl s0 s1, pl p0 p1, .complex .f64 0 0] := hp 12 (by decide)
  have q13 : ∃ g, (vs 13) = .pointer (some ⟨g, 0, none⟩) ∧ W.heap[g]? = some z5 ∧ w.heap.size + 5 ≤ g := hp 13 (by decide)
  clear hp
  simp only [fill, Act.put, List.append_eq, List.cons_append, List.nil_append, List.take_succ_cons, List.take_zero, List.setIfInBounds_toArray, List.set_cons_succ, List.set_cons_zero, Nat.reduceAdd, Nat.zero_add, q0, q1, q2, q3, q4, q5, q6, q7, q8, q9, q10, q11, q12] at hb
  subst hb
  simp only [List.append_eq, List.cons_append, List.nil_append, List.drop_succ_cons, List.drop_zero]
  clear q0 q1 q2 q3 q4 q5 q6 q7 q8 q9 q10 q11 q12
  obtain ⟨g, hv, A, hg⟩ := q13
  rw [hv]
  clear hv J
  have z0 := zc0 A
  have y0 := zf0 A
  have z1 := zc1 A
  have y1 := zf1 A
  have z2 := zc2 A
  have y2 := zf2 A
  have z3 := zc3 A
  have y3 := zf3 A
  have z4 := zc4 A
  have y4 := zf4 A
  go_wp2
  clear z0 y0 z1 y1 z2 y2 z3 y3 z4 y4
  have hJ := ((((hG.set hg 0 (pl n0 n1)).set hg 1 (pl k0 k1)).set hg 2 (pl s0 s1)).set hg 3 (pl p0 p1)).set hg 4 (.complex .f64 0 0)
  have hA := blk_put (blk_put (blk_put (blk_put (blk_put A 0 (pl n0 n1) rfl) 1 (pl k0 k1) rfl) 2 (pl s0 s1) rfl) 3 (pl p0 p1) rfl) 4 (.complex .f64 0 0) rfl
  have hA' : _ = some (fr5 n0 n1 k0 k1 s0 s1 p0 p1 (.complex .f64 0 0)) := hA
  clear hA
  generalize ((((W.setCell ⟨g, 0, none⟩ (pl n0 n1)).setCell ⟨g, 1, none⟩ (pl k0 k1)).setCell ⟨g, 2, none⟩ (pl s0 s1)).setCell ⟨g, 3, none⟩ (pl p0 p1)).setCell ⟨g, 4, none⟩ (.complex .f64 0 0) = V at *
  clear hG A vs
  refine wp_drawn (R := fun W W' => Below W.heap.size W W') 13 [.val (.pointer (some ⟨g, 0, none⟩)), .val (pl n0 n1), .val (.pointer (some ⟨g, 3, none⟩)), .val (pl p0 p1), .val (pl (n0 + p0) (n1 + p1)), .val (.pointer (some ⟨w.heap.size + 1 + 1 + 1, 2, none⟩)), .val (.int .i64 p2), .val (.pointer (some ⟨w.heap.size + 1 + 1 + 1, 3, none⟩)), .val (.int .i64 p3), .val (.agg #[.int .i64 p2, .int .i64 p3]), .val (pl p2 p3), .val (pl (n0 + p0 + p2) (n1 + p1 + p3)), .val (.pointer (some ⟨g, 4, none⟩))] (fun W => O n0 n1 k0 k1 s0 s1 p0 p1 p2 p3 w W ∧ W.heap[g]? = some (fr5 n0 n1 k0 k1 s0 s1 p0 p1 (.complex .f64 0 0))) rfl (by kernel_rfl) ⟨hJ.drew, hA'⟩ ?_ ?_
  · intro vs W hG b hb
    have e7 : b.eval (.tmp 7) = .pointer (some ⟨w.heap.size + 1 + 1 + 1, 0, none⟩) := (congrArg (fun x => Act.eval x (.tmp 7)) hb).trans ((fill_out _ 0 _ (by kernel_rfl)).trans rfl)
    have e11 : b.eval (.tmp 11) = .pointer (some ⟨g, 0, none⟩) := (congrArg (fun x => Act.eval x (.tmp 11)) hb).trans ((fill_out _ 0 _ (by kernel_rfl)).trans rfl)
    have i72 : b.eval (.tmp 72) = vs 0 := (congrArg (fun x => Act.eval x (.tmp 72)) hb).trans ((fill_in _ 0 0 _ _ 72 (by kernel_rfl) rfl rfl (by simp)).trans (congrArg vs (Nat.zero_add _)))
    have i73 : b.eval (.tmp 73) = vs 1 := (congrArg (fun x => Act.eval x (.tmp 73)) hb).trans ((fill_in _ 0 1 _ _ 73 (by kernel_rfl) rfl rfl (by simp)).trans (congrArg vs (Nat.zero_add _)))
    have i74 : b.eval (.tmp 74) = vs 2 := (congrArg (fun x => Act.eval x (.tmp 74)) hb).trans ((fill_in _ 0 2 _ _ 74 (by kernel_rfl) rfl rfl (by simp)).trans (congrArg vs (Nat.zero_add _)))
    have i75 : b.eval (.tmp 75) = vs 3 := (congrArg (fun x => Act.eval x (.tmp 75)) hb).trans ((fill_in _ 0 3 _ _ 75 (by kernel_rfl) rfl rfl (by simp)).trans (congrArg vs (Nat.zero_add _)))
    have i76 : b.eval (.tmp 76) = vs 4 := (congrArg (fun x => Act.eval x (.tmp 76)) hb).trans ((fill_in _ 0 4 _ _ 76 (by kernel_rfl) rfl rfl (by simp)).trans (congrArg vs (Nat.zero_add _)))
    have i77 : b.eval (.tmp 77) = vs 5 := (congrArg (fun x => Act.eval x (.tmp 77)) hb).trans ((fill_in _ 0 5 _ _ 77 (by kernel_rfl) rfl rfl (by simp)).trans (congrArg vs (Nat.zero_add _)))
    have i78 : b.eval (.tmp 78) = vs 6 := (congrArg (fun x => Act.eval x (.tmp 78)) hb).trans ((fill_in _ 0 6 _ _ 78 (by kernel_rfl) rfl rfl (by simp)).trans (congrArg vs (Nat.zero_add _)))
    have i79 : b.eval (.tmp 79) = vs 7 := (congrArg (fun x => Act.eval x (.tmp 79)) hb).trans ((fill_in _ 0 7 _ _ 79 (by kernel_rfl) rfl rfl (by simp)).trans (congrArg vs (Nat.zero_add _)))
    have i80 : b.eval (.tmp 80) = vs 8 := (congrArg (fun x => Act.eval x (.tmp 80)) hb).trans ((fill_in _ 0 8 _ _ 80 (by kernel_rfl) rfl rfl (by simp)).trans (congrArg vs (Nat.zero_add _)))
    have i81 : b.eval (.tmp 81) = vs 9 := (congrArg (fun x => Act.eval x (.tmp 81)) hb).trans ((fill_in _ 0 9 _ _ 81 (by kernel_rfl) rfl rfl (by simp)).trans (congrArg vs (Nat.zero_add _)))
    have i82 : b.eval (.tmp 82) = vs 10 := (congrArg (fun x => Act.eval x (.tmp 82)) hb).trans ((fill_in _ 0 10 _ _ 82 (by kernel_rfl) rfl rfl (by simp)).trans (congrArg vs (Nat.zero_add _)))
    clear hb
    refine And.intro ?_ (And.intro ?_ (And.intro ?_ (And.intro ?_ (And.intro ?_ (And.intro ?_ (And.intro ?_ (And.intro ?_ (And.intro ?_ (And.intro ?_ (And.intro ?_ (And.intro ?_ (And.intro ?_ (trivial)))))))))))))
    · intro hp K hK
      refine g_no rfl ?_
      exact st_field rfl (e11) (by kernel_rfl) (hK _ _ rfl hG (Below.refl _ _))
    · intro hp K hK
      refine g_no rfl ?_
      have e72 : b.eval (.tmp 72) = .pointer (some ⟨g, 0, none⟩) := i72.trans (hp 0 (by kernel_rfl))
      exact st_load rfl (e72) (ldp ((blk_cell hG.2 0).trans rfl)) (hK _ _ rfl hG (Below.refl _ _))
    · intro hp K hK
      refine g_no rfl ?_
      exact st_field rfl (e11) (by kernel_rfl) (hK _ _ rfl hG (Below.refl _ _))
    · intro hp K hK
      refine g_no rfl ?_
      have e74 : b.eval (.tmp 74) = .pointer (some ⟨g, 3, none⟩) := i74.trans (hp 2 (by kernel_rfl))
      exact st_load rfl (e74) (ldp ((blk_cell hG.2 3).trans rfl)) (hK _ _ rfl hG (Below.refl _ _))
    · intro hp K hK
      refine g_no rfl ?_
      have e73 : b.eval (.tmp 73) = pl n0 n1 := i73.trans (hp 1 (by kernel_rfl))
      have e75 : b.eval (.tmp 75) = pl p0 p1 := i75.trans (hp 3 (by kernel_rfl))
      exact st_bin rfl (e73) (e75) (bin_st rfl C1) (hK _ _ rfl hG (Below.refl _ _))
    · intro hp K hK
      refine g_no rfl ?_
      exact st_index rfl (e7) (eval_const _) (by kernel_rfl) (hK _ _ rfl hG (Below.refl _ _))
    · intro hp K hK
      refine g_no rfl ?_
      have e77 : b.eval (.tmp 77) = .pointer (some ⟨w.heap.size + 1 + 1 + 1, 2, none⟩) := i77.trans (hp 5 (by kernel_rfl))
      exact st_load rfl (e77) (ld1 hG.1.c32) (hK _ _ rfl hG (Below.refl _ _))
    · intro hp K hK
      refine g_no rfl ?_
      exact st_index rfl (e7) (eval_const _) (by kernel_rfl) (hK _ _ rfl hG (Below.refl _ _))
    · intro hp K hK
      refine g_no rfl ?_
      have e79 : b.eval (.tmp 79) = .pointer (some ⟨w.heap.size + 1 + 1 + 1, 3, none⟩) := i79.trans (hp 7 (by kernel_rfl))
      exact st_load rfl (e79) (ld1 hG.1.c33) (hK _ _ rfl hG (Below.refl _ _))
    · intro hp K hK
      refine g_no rfl ?_
      have e78 : b.eval (.tmp 78) = .int .i64 p2 := i78.trans (hp 6 (by kernel_rfl))
      have e80 : b.eval (.tmp 80) = .int .i64 p3 := i80.trans (hp 8 (by kernel_rfl))
      exact st_build rfl (by first | (simp only [List.map_toArray, List.map_cons, List.map_nil, eval_const, e78, e80]; done) | (simp only [List.map_toArray, List.map_cons, List.map_nil, eval_const, e78, e80]; rfl)) (by kernel_rfl) (hK _ _ rfl hG (Below.refl _ _))
    · intro hp K hK
      refine g_no rfl ?_
      have e81 : b.eval (.tmp 81) = .agg #[.int .i64 p2, .int .i64 p3] := i81.trans (hp 9 (by kernel_rfl))
      refine st_call rfl (by first | (simp only [List.map_toArray, List.map_cons, List.map_nil, eval_const, e81]; done) | (simp only [List.map_toArray, List.map_cons, List.map_nil, eval_const, e81]; rfl)) (by kernel_rfl) ?_
      refine (plane_is p2 p3 _).mono ?_
      rintro e w' ⟨rfl, hb'⟩
      exact ⟨_, rfl, hK _ _ rfl ⟨hG.1.step hb', blk_below hG.2 hb'⟩ hb'⟩
    · intro hp K hK
      refine g_no rfl ?_
      have e76 : b.eval (.tmp 76) = pl (n0 + p0) (n1 + p1) := i76.trans (hp 4 (by kernel_rfl))
      have e82 : b.eval (.tmp 82) = pl p2 p3 := i82.trans (hp 10 (by kernel_rfl))
      exact st_bin rfl (e76) (e82) (bin_st rfl C2) (hK _ _ rfl hG (Below.refl _ _))
    · intro hp K hK
      refine g_no rfl ?_
      exact st_field rfl (e11) (by kernel_rfl) (hK _ _ rfl hG (Below.refl _ _))
  intro vs W hG hp b hb
  have q0 : vs 0 = .pointer (some ⟨g, 0, none⟩) := hp 0 (by decide)
  have q1 : vs 1 = pl n0 n1 := hp 1 (by decide)
  have q2 : vs 2 = .pointer (some ⟨g, 3, none⟩) := hp 2 (by decide)
  have q3 : vs 3 = pl p0 p1 := hp 3 (by decide)
  have q4 : vs 4 = pl (n0 + p0) (n1 + p1) := hp 4 (by decide)
  have q5 : vs 5 = .pointer (some ⟨w.heap.size + 1 + 1 + 1, 2, none⟩) := hp 5 (by decide)
  have q6 : vs 6 = .int .i64 p2 := hp 6 (by decide)
  have q7 : vs 7 = .pointer (some ⟨w.heap.size + 1 + 1 + 1, 3, none⟩) := hp 7 (by decide)
  have q8 : vs 8 = .int .i64 p3 := hp 8 (by decide)
  have q9 : vs 9 = .agg #[.int .i64 p2, .int .i64 p3] := hp 9 (by decide)
  have q10 : vs 10 = pl p2 p3 := hp 10 (by decide)
  have q11 : vs 11 = pl (n0 + p0 + p2) (n1 + p1 + p3) := hp 11 (by decide)
  have q12 : vs 12 = .pointer (some ⟨g, 4, none⟩) := hp 12 (by decide)
  clear hp
  simp only [fill, Act.put, List.append_eq, List.cons_append, List.nil_append, List.take_succ_cons, List.take_zero, List.setIfInBounds_toArray, List.set_cons_succ, List.set_cons_zero, Nat.reduceAdd, Nat.zero_add, q0, q1, q2, q3, q4, q5, q6, q7, q8, q9, q10, q11, q12] at hb
  subst hb
  simp only [List.append_eq, List.cons_append, List.nil_append, List.drop_succ_cons, List.drop_zero]
  clear q0 q1 q2 q3 q4 q5 q6 q7 q8 q9 q10 q11 q12
  obtain ⟨hG, A⟩ := hG
  clear hJ hA' C1 C2
  have y4 := blk_frozen A 4
  have z4 : W.cell? ⟨g, 4, none⟩ = some (.complex .f64 0 0) := (blk_cell A 4).trans rfl
  have z0 : W.cell? ⟨g, 0, none⟩ = some (pl n0 n1) := (blk_cell A 0).trans rfl
  have z1 : W.cell? ⟨g, 1, none⟩ = some (pl k0 k1) := (blk_cell A 1).trans rfl
  have z2 : W.cell? ⟨g, 2, none⟩ = some (pl s0 s1) := (blk_cell A 2).trans rfl
  have z3 : W.cell? ⟨g, 3, none⟩ = some (pl p0 p1) := (blk_cell A 3).trans rfl
  have h40 := hG.c40
  have g40 := hG.f40
  have h41 := hG.c41
  have g41 := hG.f41
  have h42 := hG.c42
  have g42 := hG.f42
  have h43 := hG.c43
  have g43 := hG.f43
  have h44 := hG.c44
  have g44 := hG.f44
  have hne : g ≠ w.heap.size + 1 + 1 + 1 + 1 := by omega
  have hne' : w.heap.size + 1 + 1 + 1 + 1 ≠ g := by omega
  replace C3 := C3.out
  replace C4 := C4.out
  replace C5 := C5.out
  go_wp2
  have hZ := hG.set hg 4 (pl (n0 + p0 + p2) (n1 + p1 + p3))
  refine bodyPost_ret (results_ct rfl _ _ (w.heap.size + 1 + 1 + 1 + 1) 53 #[pl n0 n1, pl k0 k1, pl s0 s1, pl p0 p1, pl (n0 + p0 + p2) (n1 + p1 + p3)] (0, 0) _ rfl (blk_put (blk_put (blk_put (blk_put (blk_put hZ.b4 0 _ rfl) 1 _ rfl) 2 _ rfl) 3 _ rfl) 4 _ rfl) Try.underlying53 rfl (by kernel_rfl)) rfl ?_
  exact ⟨_, _, _, _, _, _, _, _, _, _, rfl, below_set (below_set (below_set (below_set (below_set hZ.bel (by omega)) (by omega)) (by omega)) (by omega)) (by omega)⟩
end Go.Proofs.Ytfcimgdogkpbcaa.W
